import PyProof.Rows.All
import Wide.All
import OpenK.AllK
import Wide.FinOn
import HandS.ForMost
import HandS.Exc
import HandS.TryOnly
import HandS.ExcOwn
import HandS.WordsExc
import HandS.Evl
import HandS.Steps
import HandS.IsInst
import HandS.Property
import HandS.Deep
import HandS.ExcIs
import PySem.Challenge.RW_lettersonce_k15_whole_spoilt_mail
import KE.KStateDown
import HandS.Head0
import HandS.Head1
import HandS.Head2
import HandS.HeadEnd
import HandS.HeadHook1
import HandS.HeadHook2
import HandS.HeadHook3
import HandS.Replace
import HandS.ReplaceLit
import HandS.ReplaceList
import KE.GoesEnum
import KE.GoesMore
import HandS.More
import HandS.Dict
import HandS.List
import HandS.Text
set_option Elab.async false
set_option linter.all false
set_option maxRecDepth 100000
set_option maxHeartbeats 4000000
/-! Data D, how the heap bears it (Rp), abstract states (Sl, Rep), readings lifted to data (WP, WT, WA, WG, WS). -/
namespace K15
open PySem PySem.Spec PyProof.Rows L2
open Evl (Ex ex_rd ex_l ex_t)
set_option autoImplicit false

inductive D where
  | non | bl (b : Bool) | int (i : Int) | str (x : Str) | lst (ds : List D) | tup (ds : List D)
  | dct (ks : List Str) (ds : List D) | ltr (a n s e b : D) | scr (ns : List Int)

/-- flat data, as a value -/
def D.fv : D → Option V
  | .non => some .non
  | .bl b => some (.bl b)
  | .int i => some (.int i)
  | .str x => some (.str x)
  | _ => none
def Flat (d : D) : Prop := ∃ v, d.fv = some v

abbrev ltrFs (a n s e b : V) : List (Str × V) := [("author", a), ("number", n), ("stamp", s), ("seen", e), ("body", b)]

mutual
def Rp (K : PySem.W.Frag) (C : Addr) (H : Hp) : D → V → Prop
  | .non, v => v = .non
  | .bl b, v => v = .bl b
  | .int i, v => v = .int i
  | .str x, v => v = .str x
  | .lst ds, v => ∃ a xs, v = .ref a ∧ H a = some (.lst xs) ∧ RpL K C H ds xs
  | .tup ds, v => ∃ a xs, v = .ref a ∧ H a = some (.tup xs) ∧ RpL K C H ds xs
  | .scr ns, v => ∃ a, v = .ref a ∧ SqL K H a (ns.map V.int)
  | .dct ks ds, v => ∃ a xs, v = .ref a ∧ Rd H a (.dK ((ks.map Sum.inr).zip xs)) ∧ RpL K C H ds xs ∧ ks.length = xs.length
  | .ltr a n s e b, v => ∃ p dx va vn vs ve vb, v = .ref p ∧ H p = some (.ins C dx (ltrFs va vn vs ve vb)) ∧ Rp K C H a va ∧ Rp K C H n vn ∧ Rp K C H s vs ∧ Rp K C H e ve ∧ Rp K C H b vb
def RpL (K : PySem.W.Frag) (C : Addr) (H : Hp) : List D → List V → Prop
  | [], vs => vs = []
  | d :: ds, vs => ∃ v r, vs = v :: r ∧ Rp K C H d v ∧ RpL K C H ds r
end

section
variable {K : PySem.W.Frag} {C : Addr} {H H' : Hp}
mutual
theorem Rp.mono (e : Ex H H') : ∀ (d : D) (v : V), Rp K C H d v → Rp K C H' d v
  | .non, _, h => h
  | .bl _, _, h => h
  | .int _, _, h => h
  | .str _, _, h => h
  | .lst ds, _, ⟨a, xs, ev, hs, hl⟩ => ⟨a, xs, ev, e _ _ hs, RpL.mono e ds xs hl⟩
  | .scr _, _, ⟨a, ev, hs⟩ => ⟨a, ev, ex_l e hs⟩
  | .tup ds, _, ⟨a, xs, ev, hs, hl⟩ => ⟨a, xs, ev, e _ _ hs, RpL.mono e ds xs hl⟩
  | .dct _ ds, _, ⟨a, xs, ev, hs, hl, n⟩ => ⟨a, xs, ev, ex_rd e hs, RpL.mono e ds xs hl, n⟩
  | .ltr a n s b c, _, ⟨p, dx, va, vn, vs, ve, vb, ev, hp, h1, h2, h3, h4, h5⟩ =>
    ⟨p, dx, va, vn, vs, ve, vb, ev, e _ _ hp, Rp.mono e a va h1, Rp.mono e n vn h2, Rp.mono e s vs h3, Rp.mono e b ve h4, Rp.mono e c vb h5⟩
theorem RpL.mono (e : Ex H H') : ∀ (ds : List D) (vs : List V), RpL K C H ds vs → RpL K C H' ds vs
  | [], _, h => h
  | d :: ds, _, ⟨v, r, ev, h1, h2⟩ => ⟨v, r, ev, Rp.mono e d v h1, RpL.mono e ds r h2⟩
end
theorem RpL.length : ∀ {ds : List D} {vs : List V}, RpL K C H ds vs → ds.length = vs.length
  | [], vs, h => by
    have e : vs = [] := h
    rw [e]; rfl
  | d :: ds, _, ⟨v, r, ev, _, h2⟩ => by rw [ev, List.length_cons, List.length_cons, RpL.length h2]
theorem RpL.get : ∀ {ds : List D} {vs : List V} {i : Nat} {d : D}, RpL K C H ds vs → ds[i]? = some d → ∃ v, vs[i]? = some v ∧ Rp K C H d v
  | [], _, _, _, _, e => by simp at e
  | d :: ds, _, 0, _, ⟨v, r, ev, h1, _⟩, e => by simp at e; subst e; subst ev; exact ⟨v, rfl, h1⟩
  | d :: ds, _, i + 1, _, ⟨v, r, ev, _, h2⟩, e => by
    subst ev
    obtain ⟨u, e1, e2⟩ := RpL.get (i := i) h2 (by simpa using e)
    exact ⟨u, by simpa using e1, e2⟩
theorem RpL.get' {ds : List D} {vs : List V} {i : Nat} {v : V} (h : RpL K C H ds vs) (e : vs[i]? = some v) : ∃ d, ds[i]? = some d ∧ Rp K C H d v := by
  have hi : i < vs.length := (List.getElem?_eq_some_iff.mp e).1
  have hd : i < ds.length := by rw [h.length]; exact hi
  obtain ⟨u, e1, e2⟩ := h.get (List.getElem?_eq_getElem hd)
  rw [e] at e1; cases e1
  exact ⟨_, List.getElem?_eq_getElem hd, e2⟩
theorem RpL.append : ∀ {ds es : List D} {vs us : List V}, RpL K C H ds vs → RpL K C H es us → RpL K C H (ds ++ es) (vs ++ us)
  | [], _, _, _, h, g => by rw [show _ = [] from h]; exact g
  | d :: ds, es, _, us, ⟨v, r, ev, h1, h2⟩, g => ⟨v, r ++ us, by rw [ev]; rfl, h1, RpL.append h2 g⟩
theorem RpL.drop : ∀ {ds : List D} {vs : List V} (n : Nat), RpL K C H ds vs → RpL K C H (ds.drop n) (vs.drop n)
  | _, _, 0, h => h
  | [], _, n + 1, h => by rw [show _ = [] from h]; exact rfl
  | d :: ds, _, n + 1, ⟨v, r, ev, _, h2⟩ => by rw [ev]; exact RpL.drop n h2
theorem RpL.take : ∀ {ds : List D} {vs : List V} (n : Nat), RpL K C H ds vs → RpL K C H (ds.take n) (vs.take n)
  | _, _, 0, _ => rfl
  | [], _, n + 1, h => by rw [show _ = [] from h]; exact rfl
  | d :: ds, _, n + 1, ⟨v, r, ev, h1, h2⟩ => by rw [ev]; exact ⟨v, r.take n, rfl, h1, RpL.take n h2⟩
theorem RpL.set : ∀ {ds : List D} {vs : List V} {d : D} {v : V} (n : Nat), RpL K C H ds vs → Rp K C H d v → RpL K C H (ds.set n d) (vs.set n v)
  | [], _, _, _, _, h, _ => by rw [show _ = [] from h]; exact rfl
  | d :: ds, _, _, u, 0, ⟨v, r, ev, h1, h2⟩, g => by rw [ev]; exact ⟨u, r, rfl, g, h2⟩
  | d :: ds, _, _, u, n + 1, ⟨v, r, ev, h1, h2⟩, g => by rw [ev]; exact ⟨v, r.set n u, rfl, h1, RpL.set n h2 g⟩
theorem RpL.strs : ∀ (ss : List Str), RpL K C H (ss.map D.str) (ss.map V.str)
  | [] => rfl
  | s :: r => ⟨_, _, rfl, rfl, RpL.strs r⟩
theorem RpL.strs_eq : ∀ {ss : List Str} {vs : List V}, RpL K C H (ss.map D.str) vs → vs = ss.map V.str
  | [], _, h => h
  | s :: r, _, ⟨v, q, ev, h1, h2⟩ => by rw [ev, show v = .str s from h1, RpL.strs_eq h2]; rfl
def D.v (d : D) : V := d.fv.getD .non
theorem Flat.rp {d : D} (f : Flat d) : Rp K C H d d.v := by
  obtain ⟨v, e⟩ := f
  cases d <;> first | rfl | cases e
theorem Flat.eq {d : D} {v : V} (f : Flat d) (h : Rp K C H d v) : v = d.v := by
  obtain ⟨u, e⟩ := f
  cases d <;> first | exact h | cases e
theorem Flat.any {d : D} {v : V} (f : Flat d) (h : Rp K C H d v) : Rp K C H' d v := by
  rw [f.eq h]; exact f.rp
theorem flat_str {x : Str} : Flat (.str x) := ⟨_, rfl⟩
theorem flat_int {x : Int} : Flat (.int x) := ⟨_, rfl⟩
theorem flat_bl {x : Bool} : Flat (.bl x) := ⟨_, rfl⟩
theorem flat_non : Flat .non := ⟨_, rfl⟩
end

/-! ### excluded addresses -/
def Er (O : List Addr) (H : Hp) : Hp := fun b => if b ∈ O then none else H b
section
variable {O O' : List Addr} {H H' : Hp} {b : Addr} {o : HO}
theorem Er.some (h : Er O H b = some o) : b ∉ O ∧ H b = some o := by
  unfold Er at h
  split at h
  · cases h
  · exact ⟨by assumption, h⟩
theorem Er.mk (h : b ∉ O) (e : H b = .some o) : Er O H b = .some o := by
  unfold Er; rw [if_neg h]; exact e
theorem Er.sub : Ex (Er O H) H := fun a o e => (Er.some e).2
theorem Er.shrink (h : ∀ b ∈ O', b ∈ O) : Ex (Er O H) (Er O' H) := fun a o e => Er.mk (fun z => (Er.some e).1 (h a z)) (Er.some e).2
theorem Er.ex (h : ∀ b o, b ∉ O → H b = .some o → H' b = .some o) : Ex (Er O H) (Er O H') := fun a o e => Er.mk (Er.some e).1 (h a o (Er.some e).1 (Er.some e).2)
end

def IsStrm (H : Hp) (a : Addr) : Prop := ∃ d s : Int, H a = some (.lst [.int d, .int s])
/-- from H to H' all is kept but the stream at m, which stays one -/
structure Stp (m : Option Addr) (H H' : Hp) : Prop where
  keep : ∀ b o, some b ≠ m → H b = some o → H' b = some o
  strm : ∀ a, m = some a → IsStrm H' a
/-- a heap that the excluded addresses O and the stream m stand in -/
structure Gd (m : Option Addr) (O : List Addr) (H : Hp) : Prop where
  dom : ∀ b ∈ O, H b ≠ none
  mo : ∀ a, m = some a → a ∈ O
  strm : ∀ a, m = some a → IsStrm H a
section
variable {m : Option Addr} {O : List Addr} {H H' H'' : Hp}
theorem Gd.refl (g : Gd m O H) : Stp m H H := ⟨fun _ _ _ e => e, g.strm⟩
theorem Gd.ex (g : Gd m O H) (e : Ex H H') : Stp m H H' := ⟨fun b o _ h => e b o h, fun a h => let ⟨d, s, q⟩ := g.strm a h; ⟨d, s, e _ _ q⟩⟩
theorem Stp.trans (a : Stp m H H') (b : Stp m H' H'') : Stp m H H'' := ⟨fun c o n e => b.keep c o n (a.keep c o n e), b.strm⟩
theorem Gd.step (g : Gd m O H) (s : Stp m H H') : Gd m O H' := by
  refine ⟨fun b hb z => ?_, g.mo, s.strm⟩
  by_cases e : some b = m
  · obtain ⟨d, t, q⟩ := s.strm b e.symm
    rw [z] at q; cases q
  · cases h : H b with
    | none => exact g.dom b hb h
    | some o => rw [s.keep b o e h] at z; cases z
theorem Gd.er (g : Gd m O H) (s : Stp m H H') : Ex (Er O H) (Er O H') := Er.ex fun b o hb e => s.keep b o (fun z => hb (g.mo b z.symm)) e
theorem Gd.new (g : Gd m O H) {p : Addr} (h : H p = none) : p ∉ O := fun z => g.dom p z h
theorem Gd.upd (g : Gd m O H) {p : Addr} {o : HO} (h : H p = none) : Stp m H (upd H p o) := g.ex (Evl.Ex.new h)
theorem Gd.at (g : Gd m O H) {p : Addr} {o : HO} (h : H p = none) : Er O (L2.upd H p o) p = some o := Er.mk (g.new h) upd_same
end

/-! ### abstract states -/
inductive Sl where
  | un | dat (d : D) | own (ss : List Str) | ownd (ks : List Str) (ds : List D) | strm
def Sl.isOwn : Sl → Bool
  | .own _ => true
  | .ownd _ _ => true
  | _ => false
def Sl.frz : Sl → Sl
  | .own ss => .dat (.lst (ss.map .str))
  | .ownd ks ds => .dat (.dct ks ds)
  | s => s
def frz (τ : List Sl) : List Sl := τ.map Sl.frz
def OwnObj : Sl → HO → Prop
  | .own ss, o => o = .lst (ss.map V.str)
  | .ownd ks ds, o => o = .dK ((ks.map Sum.inr).zip (ds.map D.v)) ∧ ks.length = ds.length ∧ ∀ d ∈ ds, Flat d
  | _, _ => False
def SlOk (K : PySem.W.Frag) (C : Addr) (m : Option Addr) (O A : List Addr) (H : Hp) (x : Option (Option V)) : Sl → Prop
  | .un => True
  | .dat d => ∃ v, x = some (some v) ∧ Rp K C (Er O H) d v
  | .strm => ∃ a, m = some a ∧ x = some (some (.ref a))
  | s => ∃ a o, x = some (some (.ref a)) ∧ a ∈ A ∧ H a = some o ∧ OwnObj s o
structure Rep (K : PySem.W.Frag) (C : Addr) (m : Option Addr) (O0 : List Addr) (H0 : Hp) (A : List Addr) (H : Hp) (σ : L2.St) (τ : List Sl) : Prop where
  len : σ.length = τ.length
  sl : ∀ (i : Nat) (s : Sl), τ[i]? = some s → SlOk K C m (A ++ O0) A H σ[i]? s
  uniq : ∀ (i j : Nat) (s t : Sl) (a : Addr), τ[i]? = some s → τ[j]? = some t → s.isOwn = true → t.isOwn = true → σ[i]? = some (some (.ref a)) → σ[j]? = some (some (.ref a)) → i = j
  dom : ∀ b ∈ O0, H0 b ≠ none
  mo : ∀ a, m = some a → a ∈ O0
  st : Stp m H0 H
  fresh : ∀ a ∈ A, H0 a = none
  domA : ∀ a ∈ A, H a ≠ none
/-- from a state with own addresses A to one with A' -/
structure Tr (m : Option Addr) (A : List Addr) (H : Hp) (A' : List Addr) (H' : Hp) : Prop where
  keep : ∀ b o, some b ≠ m → b ∉ A → H b = some o → H' b = some o
  new : ∀ b ∈ A', b ∈ A ∨ H b = none
  strm : ∀ a, m = some a → IsStrm H' a
section
variable {K : PySem.W.Frag} {C : Addr} {m : Option Addr} {O0 A A' A'' : List Addr} {H0 H H' H'' : Hp} {σ : L2.St} {τ : List Sl}
theorem Rep.nom (r : Rep K C m O0 H0 A H σ τ) {a : Addr} (h : a ∈ A) : some a ≠ m := fun z => r.dom a (r.mo a z.symm) (r.fresh a h)
theorem Rep.gd0 (r : Rep K C m O0 H0 A H σ τ) : Gd m O0 H := by
  refine ⟨fun b hb z => ?_, r.mo, r.st.strm⟩
  by_cases e : some b = m
  · obtain ⟨d, t, q⟩ := r.st.strm b e.symm
    rw [z] at q; cases q
  · cases h : H0 b with
    | none => exact r.dom b hb h
    | some o => rw [r.st.keep b o e h] at z; cases z
theorem Rep.gd (r : Rep K C m O0 H0 A H σ τ) : Gd m (A ++ O0) H := by
  refine ⟨fun b hb => ?_, fun a h => List.mem_append_right _ (r.mo a h), r.st.strm⟩
  rcases List.mem_append.mp hb with h | h
  · exact r.domA b h
  · exact r.gd0.dom b h
theorem SlOk.step {O : List Addr} {x : Option (Option V)} {s : Sl} (g : Gd m O H) (hA : ∀ a ∈ A, some a ≠ m) (h : SlOk K C m O A H x s) (t : Stp m H H') : SlOk K C m O A H' x s := by
  cases s with
  | un => trivial
  | dat d => obtain ⟨v, e, q⟩ := h; exact ⟨v, e, Rp.mono (g.er t) _ _ q⟩
  | strm => exact h
  | own ss => obtain ⟨a, o, e, ha, ho, q⟩ := h; exact ⟨a, o, e, ha, t.keep _ _ (hA a ha) ho, q⟩
  | ownd ks ds => obtain ⟨a, o, e, ha, ho, q⟩ := h; exact ⟨a, o, e, ha, t.keep _ _ (hA a ha) ho, q⟩
theorem Rep.step (r : Rep K C m O0 H0 A H σ τ) (t : Stp m H H') : Rep K C m O0 H0 A H' σ τ :=
  ⟨r.len, fun i s e => (r.sl i s e).step r.gd (fun _ h => r.nom h) t, r.uniq, r.dom, r.mo, r.st.trans t, r.fresh, fun a ha => (r.gd.step t).dom a (List.mem_append_left _ ha)⟩
theorem Tr.of (t : Stp m H H') : Tr m A H A H' := ⟨fun b o n _ e => t.keep b o n e, fun _ h => .inl h, t.strm⟩
theorem Rep.trr (r : Rep K C m O0 H0 A H σ τ) : Tr m A H A H := .of r.gd.refl
theorem Tr.trans (a : Tr m A H A' H') (b : Tr m A' H' A'' H'') : Tr m A H A'' H'' where
  keep := fun c o n h e => b.keep c o n (fun z => by
    rcases a.new c z with q | q
    · exact h q
    · rw [e] at q; cases q) (a.keep c o n h e)
  new := fun c h => by
    rcases b.new c h with q | q
    · exact a.new c q
    · cases e : H c with
      | none => exact .inr rfl
      | some o =>
        by_cases hA : c ∈ A
        · exact .inl hA
        · by_cases z : some c = m
          · obtain ⟨d, s, w⟩ := a.strm c z.symm
            rw [q] at w; cases w
          · rw [a.keep c o z hA e] at q; cases q
  strm := b.strm
theorem frz_get {i : Nat} : (frz τ)[i]? = τ[i]?.map Sl.frz := by unfold frz; rw [List.getElem?_map]
theorem dct_flat {ks : List Str} {ds : List D} (hf : ∀ d ∈ ds, Flat d) : RpL K C H ds (ds.map D.v) := by
  induction ds with
  | nil => exact rfl
  | cons d r ih => exact ⟨_, _, rfl, (hf d List.mem_cons_self).rp, ih fun x hx => hf x (List.mem_cons_of_mem _ hx)⟩
theorem Rep.frz (r : Rep K C m O0 H0 A H σ τ) : Rep K C m O0 H0 [] H σ (frz τ) := by
  have sh : Ex (Er (A ++ O0) H) (Er ([] ++ O0) H) := Er.shrink fun b hb => List.mem_append_right _ hb
  refine ⟨?_, fun i s e => ?_, fun i j s t a e1 e2 o1 o2 => ?_, r.dom, r.mo, r.st, (fun _ h => nomatch h), (fun _ h => nomatch h)⟩
  · rw [r.len]; unfold K15.frz; rw [List.length_map]
  · rw [frz_get] at e
    obtain ⟨s0, e0, rfl⟩ := Option.map_eq_some_iff.mp e
    have h := r.sl i s0 e0
    cases s0 with
    | un => trivial
    | dat d => obtain ⟨v, e, q⟩ := h; exact ⟨v, e, Rp.mono sh _ _ q⟩
    | strm => exact h
    | own ss =>
      obtain ⟨a, o, ex, ha, ho, q⟩ := h
      refine ⟨_, ex, a, ss.map V.str, rfl, Er.mk (fun z => ?_) (by rw [ho, show o = _ from q]), RpL.strs ss⟩
      exact r.dom a (by simpa using z) (r.fresh a ha)
    | ownd ks ds =>
      obtain ⟨a, o, ex, ha, ho, q, hl, hf⟩ := h
      refine ⟨_, ex, a, ds.map D.v, rfl, .inl (Er.mk (fun z => ?_) (by rw [ho, q])), dct_flat (ks := ks) hf, by rw [List.length_map]; exact hl⟩
      exact r.dom a (by simpa using z) (r.fresh a ha)
  · exfalso
    rw [frz_get] at e1
    obtain ⟨s0, e0, rfl⟩ := Option.map_eq_some_iff.mp e1
    cases s0 <;> cases o1
theorem Rep.tfrz (r : Rep K C m O0 H0 A H σ τ) : Tr m A H [] H := ⟨fun _ _ _ _ e => e, (fun _ h => nomatch h), r.st.strm⟩
/-- a slot takes data -/
theorem Rep.set (r : Rep K C m O0 H0 A H σ τ) {i : Nat} {d : D} {v : V} (h : Rp K C (Er (A ++ O0) H) d v) (hi : i < τ.length) : Rep K C m O0 H0 A H (σ.set i (some v)) (τ.set i (.dat d)) := by
  refine ⟨by rw [List.length_set, List.length_set]; exact r.len, fun j s e => ?_, fun j k s t a e1 e2 o1 o2 q1 q2 => ?_, r.dom, r.mo, r.st, r.fresh, r.domA⟩
  · by_cases hj : i = j
    · subst hj
      rw [List.getElem?_set_self hi] at e
      cases e
      exact ⟨v, by rw [List.getElem?_set_self (by rw [r.len]; exact hi)], h⟩
    · rw [List.getElem?_set_ne hj] at e
      rw [List.getElem?_set_ne hj]
      exact r.sl j s e
  · have n1 : i ≠ j := fun z => by subst z; rw [List.getElem?_set_self hi] at e1; cases e1; cases o1
    have n2 : i ≠ k := fun z => by subst z; rw [List.getElem?_set_self hi] at e2; cases e2; cases o2
    rw [List.getElem?_set_ne n1] at e1 q1
    rw [List.getElem?_set_ne n2] at e2 q2
    exact r.uniq j k s t a e1 e2 o1 o2 q1 q2
/-- a slot forgotten -/
theorem Rep.wipe1 (r : Rep K C m O0 H0 A H σ τ) {i : Nat} {x : Option V} : Rep K C m O0 H0 A H (σ.set i x) (τ.set i .un) := by
  refine ⟨by rw [List.length_set, List.length_set]; exact r.len, fun j s e => ?_, fun j k s t a e1 e2 o1 o2 q1 q2 => ?_, r.dom, r.mo, r.st, r.fresh, r.domA⟩
  · by_cases hj : i = j
    · subst hj
      rw [List.getElem?_set] at e
      split at e
      · split at e
        · cases e; trivial
        · cases e
      · rename_i h; exact absurd rfl h
    · rw [List.getElem?_set_ne hj] at e
      rw [List.getElem?_set_ne hj]
      exact r.sl j s e
  · have n1 : i ≠ j := fun z => by
      subst z
      rw [List.getElem?_set] at e1
      split at e1
      · split at e1
        · cases e1; cases o1
        · cases e1
      · rename_i h; exact h rfl
    have n2 : i ≠ k := fun z => by
      subst z
      rw [List.getElem?_set] at e2
      split at e2
      · split at e2
        · cases e2; cases o2
        · cases e2
      · rename_i h; exact h rfl
    rw [List.getElem?_set_ne n1] at e1 q1
    rw [List.getElem?_set_ne n2] at e2 q2
    exact r.uniq j k s t a e1 e2 o1 o2 q1 q2
/-- an own slot's object is written -/
theorem Rep.write (r : Rep K C m O0 H0 A H σ τ) {i : Nat} {s s' : Sl} {a : Addr} {o' : HO} (hs : τ[i]? = some s) (ho : s.isOwn = true) (hx : σ[i]? = some (some (.ref a))) (ha : a ∈ A) (h' : s'.isOwn = true) (q : OwnObj s' o') :
    Rep K C m O0 H0 A (upd H a o') σ (τ.set i s') ∧ Tr m A H A (upd H a o') := by
  have nm := r.nom ha
  have hi : i < τ.length := (List.getElem?_eq_some_iff.mp hs).1
  have kp : ∀ b o, b ∉ A ++ O0 → H b = some o → upd H a o' b = some o := fun b o hb e => by
    rw [upd_ne (fun z => hb (by rw [z]; exact List.mem_append_left _ ha))]; exact e
  have st : Stp m H0 (upd H a o') := ⟨fun b o n e => by rw [upd_ne (fun z => by rw [z, r.fresh a ha] at e; cases e)]; exact r.st.keep b o n e, fun b e => by
    obtain ⟨d, t, w⟩ := r.st.strm b e
    exact ⟨d, t, by rw [upd_ne (fun z => nm (by rw [← z]; exact e.symm))]; exact w⟩⟩
  refine ⟨⟨by rw [List.length_set]; exact r.len, fun j t e => ?_, fun j k t u b e1 e2 o1 o2 q1 q2 => ?_, r.dom, r.mo, st, r.fresh, fun b hb => ?_⟩, ⟨fun b o n hb e => ?_, fun _ h => .inl h, st.strm⟩⟩
  · by_cases hj : i = j
    · subst hj
      rw [List.getElem?_set_self hi] at e
      cases e
      cases s' with
      | un => cases h'
      | dat d => cases h'
      | strm => cases h'
      | own ss => exact ⟨a, o', hx, ha, upd_same, q⟩
      | ownd ks ds => exact ⟨a, o', hx, ha, upd_same, q⟩
    · rw [List.getElem?_set_ne hj] at e
      have h := r.sl j t e
      cases t with
      | un => trivial
      | dat d => obtain ⟨v, e, q⟩ := h; exact ⟨v, e, Rp.mono (Er.ex kp) _ _ q⟩
      | strm => exact h
      | own ss =>
        obtain ⟨b, o, ex, hb, hbo, q⟩ := h
        refine ⟨b, o, ex, hb, ?_, q⟩
        rw [upd_ne (fun z => hj (r.uniq i j s _ a hs e ho rfl hx (by rw [← z]; exact ex)))]
        exact hbo
      | ownd ks ds =>
        obtain ⟨b, o, ex, hb, hbo, q⟩ := h
        refine ⟨b, o, ex, hb, ?_, q⟩
        rw [upd_ne (fun z => hj (r.uniq i j s _ a hs e ho rfl hx (by rw [← z]; exact ex)))]
        exact hbo
  · have f : ∀ (j : Nat) (t : Sl), (τ.set i s')[j]? = some t → t.isOwn = true → ∃ t', τ[j]? = some t' ∧ t'.isOwn = true := fun j t e ot => by
      by_cases hj : i = j
      · subst hj; exact ⟨s, hs, ho⟩
      · rw [List.getElem?_set_ne hj] at e; exact ⟨t, e, ot⟩
    obtain ⟨t', e1', o1'⟩ := f j t e1 o1
    obtain ⟨u', e2', o2'⟩ := f k u e2 o2
    exact r.uniq j k t' u' b e1' e2' o1' o2' q1 q2
  · by_cases z : b = a
    · rw [z, upd_same]; exact fun w => nomatch w
    · rw [upd_ne z]; exact r.domA b hb
  · rw [upd_ne (fun z => hb (by rw [z]; exact ha))]; exact e
/-- a new own object at a slot -/
theorem Rep.newOwn (r : Rep K C m O0 H0 A H σ τ) {i : Nat} {s : Sl} {p : Addr} {o : HO} (hp : H p = none) (hi : i < τ.length) (h' : s.isOwn = true) (q : OwnObj s o) :
    Rep K C m O0 H0 (p :: A) (upd H p o) (σ.set i (some (.ref p))) (τ.set i s) ∧ Tr m A H (p :: A) (upd H p o) := by
  have g := r.gd
  have st := g.upd (o := o) hp
  have r1 := r.step st
  have hp0 : H0 p = none := by
    cases e : H0 p with
    | none => rfl
    | some u =>
      by_cases z : some p = m
      · obtain ⟨d, t, w⟩ := r.st.strm p z.symm
        rw [hp] at w; cases w
      · rw [r.st.keep p u z e] at hp; cases hp
  have nA : p ∉ A := fun z => r.domA p z hp
  have ex : Ex (Er (A ++ O0) H) (Er (p :: A ++ O0) (upd H p o)) := fun b u e => by
    obtain ⟨n, e⟩ := Er.some e
    have nb : b ≠ p := fun z => by rw [z, hp] at e; cases e
    exact Er.mk (fun z => (List.mem_cons.mp z).elim nb n) (by rw [upd_ne nb]; exact e)
  refine ⟨⟨by rw [List.length_set, List.length_set]; exact r.len, fun j t e => ?_, fun j k t u b e1 e2 o1 o2 q1 q2 => ?_, r.dom, r.mo, r1.st, fun b hb => ?_, fun b hb => ?_⟩, ⟨fun b u n _ e => ?_, fun b hb => ?_, st.strm⟩⟩
  · by_cases hj : i = j
    · subst hj
      rw [List.getElem?_set_self hi] at e
      cases e
      have hx : (σ.set i (some (.ref p)))[i]? = some (some (.ref p)) := List.getElem?_set_self (by rw [r.len]; exact hi)
      cases s with
      | un => cases h'
      | dat d => cases h'
      | strm => cases h'
      | own ss => exact ⟨p, o, hx, List.mem_cons_self, upd_same, q⟩
      | ownd ks ds => exact ⟨p, o, hx, List.mem_cons_self, upd_same, q⟩
    · rw [List.getElem?_set_ne hj] at e
      rw [List.getElem?_set_ne hj]
      have h := r.sl j t e
      have ne : ∀ b u, H b = some u → b ≠ p := fun b u w z => by rw [z, hp] at w; cases w
      cases t with
      | un => trivial
      | dat d => obtain ⟨v, e, q⟩ := h; exact ⟨v, e, Rp.mono ex _ _ q⟩
      | strm => exact h
      | own ss => obtain ⟨b, u, ex, hb, hbo, q⟩ := h; exact ⟨b, u, ex, List.mem_cons_of_mem _ hb, by rw [upd_ne (ne b u hbo)]; exact hbo, q⟩
      | ownd ks ds => obtain ⟨b, u, ex, hb, hbo, q⟩ := h; exact ⟨b, u, ex, List.mem_cons_of_mem _ hb, by rw [upd_ne (ne b u hbo)]; exact hbo, q⟩
  · have f : ∀ (j : Nat) (t : Sl) (b : Addr), i ≠ j → τ[j]? = some t → t.isOwn = true → σ[j]? = some (some (.ref b)) → b ∈ A := fun j t b _ e ot eq => by
      have h := r.sl j t e
      cases t with
      | un => cases ot
      | dat d => cases ot
      | strm => cases ot
      | own ss => obtain ⟨c, u, ex, hb, _⟩ := h; rw [eq] at ex; cases ex; exact hb
      | ownd ks ds => obtain ⟨c, u, ex, hb, _⟩ := h; rw [eq] at ex; cases ex; exact hb
    by_cases hj : i = j
    · by_cases hk : i = k
      · exact hj.symm.trans hk
      · exfalso
        subst hj
        rw [List.getElem?_set_self (by rw [r.len]; exact hi)] at q1
        cases q1
        rw [List.getElem?_set_ne hk] at e2 q2
        exact nA (f k u p hk e2 o2 q2)
    · by_cases hk : i = k
      · exfalso
        subst hk
        rw [List.getElem?_set_self (by rw [r.len]; exact hi)] at q2
        cases q2
        rw [List.getElem?_set_ne hj] at e1 q1
        exact nA (f j t p hj e1 o1 q1)
      · rw [List.getElem?_set_ne hj] at e1 q1
        rw [List.getElem?_set_ne hk] at e2 q2
        exact r.uniq j k t u b e1 e2 o1 o2 q1 q2
  · rcases List.mem_cons.mp hb with z | z
    · rw [z]; exact hp0
    · exact r.fresh b z
  · rcases List.mem_cons.mp hb with z | z
    · rw [z, upd_same]; exact fun w => nomatch w
    · exact r1.domA b z
  · rw [upd_ne (fun z => by rw [z, hp] at e; cases e)]; exact e
  · rcases List.mem_cons.mp hb with z | z
    · exact .inr (by rw [z]; exact hp)
    · exact .inl z
end
end K15
/-! readings lifted to data: WP (expressions), WT (tests), WA (arguments), WO (slice parts), WG (targets), WI (walked things), WS (statements). -/
namespace K15
open PySem PySem.Spec PyProof.Rows L2
open Evl (Ex ex_rd ex_l ex_t)
set_option autoImplicit false
structure Bx where
  K : PySem.W.Frag
  C : Addr
  G : Option Addr → Hp → Prop
abbrev Bx.rep (B : Bx) := Rep B.K B.C
abbrev Bx.rp (B : Bx) := Rp B.K B.C
abbrev Bx.rpl (B : Bx) := RpL B.K B.C
def WP (B : Bx) (te : TE) (τ : List Sl) (P : D → Prop) : Prop := ∀ (m : Option Addr) (O0 : List Addr) (H0 : Hp) (A : List Addr) (σ : L2.St) (H : Hp), B.G m H0 → B.rep m O0 H0 A H σ τ →
  ∀ Q : VK, (∀ v H' d, Stp m H H' → B.rp (Er (A ++ O0) H') d v → P d → Q v H') → te σ H Q
def WT (B : Bx) (tt : TT) (τ : List Sl) (P : Bool → Prop) : Prop := ∀ (m : Option Addr) (O0 : List Addr) (H0 : Hp) (A : List Addr) (σ : L2.St) (H : Hp), B.G m H0 → B.rep m O0 H0 A H σ τ →
  ∀ Q : Bool → Hp → Prop, (∀ b H', Stp m H H' → P b → Q b H') → tt σ H Q
def WA (B : Bx) (ta : TA) (τ : List Sl) (P : List D → Prop) : Prop := ∀ (m : Option Addr) (O0 : List Addr) (H0 : Hp) (A : List Addr) (σ : L2.St) (H : Hp), B.G m H0 → B.rep m O0 H0 A H σ τ →
  ∀ Q : List V → Hp → Prop, (∀ vs H' ds, Stp m H H' → B.rpl (Er (A ++ O0) H') ds vs → P ds → Q vs H') → ta σ H Q
def WO (B : Bx) (to : TO) (τ : List Sl) (P : Option Int → Prop) : Prop := ∀ (m : Option Addr) (O0 : List Addr) (H0 : Hp) (A : List Addr) (σ : L2.St) (H : Hp), B.G m H0 → B.rep m O0 H0 A H σ τ →
  ∀ Q : Option Int → Hp → Prop, (∀ o H', Stp m H H' → P o → Q o H') → to σ H Q
/-- an operation on data: two places, a call, a method -/
def OpD (B : Bx) (r : R2) (x y : D) (P : D → Prop) : Prop := ∀ (m : Option Addr) (O : List Addr) (H : Hp) (v w : V), Gd m O H → B.rp (Er O H) x v → B.rp (Er O H) y w →
  ∀ Q : VK, (∀ u H' d, Stp m H H' → B.rp (Er O H') d u → P d → Q u H') → r v w H Q
def CallD (B : Bx) (r : List V → Hp → VK → Prop) (ds : List D) (P : D → Prop) : Prop := ∀ (m : Option Addr) (O : List Addr) (H : Hp) (vs : List V), Gd m O H → B.rpl (Er O H) ds vs →
  ∀ Q : VK, (∀ u H' d, Stp m H H' → B.rp (Er O H') d u → P d → Q u H') → r vs H Q
def MtD (B : Bx) (r : V → List V → Hp → VK → Prop) (x : D) (ds : List D) (P : D → Prop) : Prop := ∀ (m : Option Addr) (O : List Addr) (H : Hp) (v : V) (vs : List V), Gd m O H → B.rp (Er O H) x v → B.rpl (Er O H) ds vs →
  ∀ Q : VK, (∀ u H' d, Stp m H H' → B.rp (Er O H') d u → P d → Q u H') → r v vs H Q
section
variable {B : Bx} {τ : List Sl} {P P' : D → Prop} {te ta tb : TE} {tt tu : TT} {tr : TA}
theorem WP.imp (h : WP B te τ P) (g : ∀ d, P d → P' d) : WP B te τ P' := fun m O0 H0 A σ H hG R Q q => h m O0 H0 A σ H hG R Q fun v H' d s r p => q v H' d s r (g d p)
theorem WT.imp {P P' : Bool → Prop} (h : WT B tt τ P) (g : ∀ d, P d → P' d) : WT B tt τ P' := fun m O0 H0 A σ H hG R Q q => h m O0 H0 A σ H hG R Q fun b H' s p => q b H' s (g b p)
/-- flat answers may be reckoned with the own lists as data -/
theorem wp_frz (h : WP B te (frz τ) (fun d => Flat d ∧ P d)) : WP B te τ P := fun m O0 H0 A σ H hG R Q q =>
  h m O0 H0 [] σ H hG R.frz Q fun v H' d s r p => q v H' d s (p.1.any r) p.2
theorem wt_frz {P : Bool → Prop} (h : WT B tt (frz τ) P) : WT B tt τ P := fun m O0 H0 A σ H hG R Q q => h m O0 H0 [] σ H hG R.frz Q q
theorem wp_var {i : Nat} {d : D} (h : τ[i]? = some (.dat d)) (p : P d) : WP B (tVar i) τ P := fun m O0 H0 A σ H hG R Q q => by
  obtain ⟨v, e, r⟩ := R.sl i _ h
  exact ⟨v, e, q v H d R.gd.refl r p⟩
theorem wp_int {i : Int} (p : P (.int i)) : WP B (tC (.int i)) τ P := fun m O0 H0 A σ H hG R Q q => q _ H (.int i) R.gd.refl rfl p
theorem wp_str {x : Str} (p : P (.str x)) : WP B (tC (.str x)) τ P := fun m O0 H0 A σ H hG R Q q => q _ H (.str x) R.gd.refl rfl p
theorem wp_bl {b : Bool} (p : P (.bl b)) : WP B (tC (.bl b)) τ P := fun m O0 H0 A σ H hG R Q q => q _ H (.bl b) R.gd.refl rfl p
theorem wp_non (p : P .non) : WP B (tC .non) τ P := fun m O0 H0 A σ H hG R Q q => q _ H (.non) R.gd.refl rfl p
theorem wp_op {r : R2} (h : WP B ta τ fun x => WP B tb τ fun y => OpD B r x y P) : WP B (tOp r ta tb) τ P := fun m O0 H0 A σ H hG R Q q =>
  h m O0 H0 A σ H hG R _ fun v H1 x s1 r1 h1 => h1 m O0 H0 A σ H1 hG (R.step s1) _ fun w H2 y s2 r2 h2 =>
    h2 m _ H2 v w ((R.step s1).gd.step s2) (Rp.mono ((R.step s1).gd.er s2) _ _ r1) r2 Q fun u H3 d s3 r3 p => q u H3 d ((s1.trans s2).trans s3) r3 p
theorem wa_nil {P : List D → Prop} (p : P []) : WA B tNil τ P := fun m O0 H0 A σ H hG R Q q => q _ H ([]) R.gd.refl rfl p
theorem wa_cons {P : List D → Prop} (h : WP B te τ fun d => WA B tr τ fun ds => P (d :: ds)) : WA B (tCons te tr) τ P := fun m O0 H0 A σ H hG R Q q =>
  h m O0 H0 A σ H hG R _ fun v H1 x s1 r1 h1 => h1 m O0 H0 A σ H1 hG (R.step s1) _ fun vs H2 ds s2 r2 p =>
    q (v :: vs) H2 (x :: ds) (s1.trans s2) ⟨v, vs, rfl, Rp.mono ((R.step s1).gd.er s2) _ _ r1, r2⟩ p
theorem wp_tup (h : WA B tr τ fun ds => ds.length ≤ 100000 ∧ P (.tup ds)) : WP B (tTup tr) τ P := fun m O0 H0 A σ H hG R Q q =>
  h m O0 H0 A σ H hG R _ fun vs H1 ds s1 r1 p => ⟨by rw [← r1.length]; exact Evl.sz_of p.1, fun a ha => by
    have g := (R.step s1).gd
    exact q _ _ (.tup ds) (s1.trans (g.upd ha)) ⟨a, vs, rfl, g.at ha, RpL.mono (g.er (g.upd ha)) _ _ r1⟩ p.2⟩
theorem wp_lst (h : WA B tr τ fun ds => ds.length ≤ 100000 ∧ P (.lst ds)) : WP B (tLst tr) τ P := fun m O0 H0 A σ H hG R Q q =>
  h m O0 H0 A σ H hG R _ fun vs H1 ds s1 r1 p => ⟨by rw [← r1.length]; exact Evl.sz_of p.1, fun a ha => by
    have g := (R.step s1).gd
    exact q _ _ (.lst ds) (s1.trans (g.upd ha)) ⟨a, vs, rfl, g.at ha, RpL.mono (g.er (g.upd ha)) _ _ r1⟩ p.2⟩
theorem wp_cb {r : List V → Hp → VK → Prop} (h : WA B tr τ fun ds => CallD B r ds P) : WP B (tCB r tr) τ P := fun m O0 H0 A σ H hG R Q q =>
  h m O0 H0 A σ H hG R _ fun vs H1 ds s1 r1 h1 => h1 m _ H1 vs (R.step s1).gd r1 Q fun u H2 d s2 r2 p => q u H2 d (s1.trans s2) r2 p
/-- a text's method -/
theorem wp_m1 {r : V → List V → Hp → VK → Prop} (h : WP B te τ fun x => (∃ s, x = .str s) ∧ WP B ta τ fun y => MtD B r x [y] P) : WP B (tM1 r te ta) τ P := fun m O0 H0 A σ H hG R Q q =>
  h m O0 H0 A σ H hG R _ fun v H1 x s1 r1 h1 => ⟨by obtain ⟨⟨s, e⟩, _⟩ := h1; subst e; exact ⟨s, r1⟩, h1.2 m O0 H0 A σ H1 hG (R.step s1) _ fun w H2 y s2 r2 h2 =>
    h2 m _ H2 v [w] ((R.step s1).gd.step s2) (Rp.mono ((R.step s1).gd.er s2) _ _ r1) ⟨w, [], rfl, r2, rfl⟩ Q fun u H3 d s3 r3 p => q u H3 d ((s1.trans s2).trans s3) r3 p⟩
/-! ### tests -/
theorem wt_test {P : Bool → Prop} (h : WP B te τ fun d => ∃ b : Bool, d = .bl b ∧ P b) : WT B (tTest te) τ P := fun m O0 H0 A σ H hG R Q q =>
  h m O0 H0 A σ H hG R _ fun v H1 d s1 r1 h1 => by
    obtain ⟨b, e, p⟩ := h1
    subst e
    exact ⟨b, r1, q b H1 s1 p⟩
theorem wt_B {P : Bool → Prop} (h : WP B te τ fun d => ∃ b : Bool, d = .bl b ∧ P b) : WT B (tB te) τ P := fun m O0 H0 A σ H hG R Q q =>
  h m O0 H0 A σ H hG R _ fun v H1 d s1 r1 h1 => by
    obtain ⟨b, e, p⟩ := h1
    subst e
    exact ⟨b, r1, q b H1 s1 p⟩
theorem wt_and {P : Bool → Prop} (h : WT B tt τ fun b => (b = true → WT B tu τ P) ∧ (b = false → P false)) : WT B (tAnd tt tu) τ P := fun m O0 H0 A σ H hG R Q q =>
  h m O0 H0 A σ H hG R _ fun b H1 s1 h1 => by
    cases b with
    | true => exact h1.1 rfl m O0 H0 A σ H1 hG (R.step s1) Q fun c H2 s2 p => q c H2 (s1.trans s2) p
    | false => exact q false H1 s1 (h1.2 rfl)
theorem wt_or {P : Bool → Prop} (h : WT B tt τ fun b => (b = true → P true) ∧ (b = false → WT B tu τ P)) : WT B (tOr tt tu) τ P := fun m O0 H0 A σ H hG R Q q =>
  h m O0 H0 A σ H hG R _ fun b H1 s1 h1 => by
    cases b with
    | true => exact q true H1 s1 (h1.1 rfl)
    | false => exact h1.2 rfl m O0 H0 A σ H1 hG (R.step s1) Q fun c H2 s2 p => q c H2 (s1.trans s2) p
theorem wt_not {P : Bool → Prop} (h : WT B tt τ fun b => P (!b)) : WT B (tNot tt) τ P := fun m O0 H0 A σ H hG R Q q =>
  h m O0 H0 A σ H hG R _ fun b H1 s1 h1 => q _ H1 s1 h1
theorem wp_andV (h : WP B ta τ fun d => ∃ b : Bool, d = .bl b ∧ (b = true → WP B tb τ P) ∧ (b = false → P (.bl false))) : WP B (tAndV ta tb) τ P := fun m O0 H0 A σ H hG R Q q =>
  h m O0 H0 A σ H hG R _ fun v H1 d s1 r1 h1 => by
    obtain ⟨b, e, h2, h3⟩ := h1
    subst e
    refine ⟨b, r1, ?_⟩
    cases b with
    | true => exact h2 rfl m O0 H0 A σ H1 hG (R.step s1) Q fun w H2 y s2 r2 p => q w H2 y (s1.trans s2) r2 p
    | false => exact q _ H1 (.bl false) s1 rfl (h3 rfl)
theorem wp_orV (h : WP B ta τ fun d => ∃ b : Bool, d = .bl b ∧ (b = true → P (.bl true)) ∧ (b = false → WP B tb τ P)) : WP B (tOrV ta tb) τ P := fun m O0 H0 A σ H hG R Q q =>
  h m O0 H0 A σ H hG R _ fun v H1 d s1 r1 h1 => by
    obtain ⟨b, e, h2, h3⟩ := h1
    subst e
    refine ⟨b, r1, ?_⟩
    cases b with
    | true => exact q _ H1 (.bl true) s1 rfl (h2 rfl)
    | false => exact h3 rfl m O0 H0 A σ H1 hG (R.step s1) Q fun w H2 y s2 r2 p => q w H2 y (s1.trans s2) r2 p
theorem wp_notV (h : WP B ta τ fun d => ∃ b : Bool, d = .bl b ∧ P (.bl (!b))) : WP B (tNotV ta) τ P := fun m O0 H0 A σ H hG R Q q =>
  h m O0 H0 A σ H hG R _ fun v H1 d s1 r1 h1 => by
    obtain ⟨b, e, p⟩ := h1
    subst e
    exact ⟨b, r1, q _ H1 (.bl (!b)) s1 rfl p⟩
theorem wp_if (h : WT B tt τ fun b => (b = true → WP B ta τ P) ∧ (b = false → WP B tb τ P)) : WP B (tIf tt ta tb) τ P := fun m O0 H0 A σ H hG R Q q =>
  h m O0 H0 A σ H hG R _ fun b H1 s1 h1 => by
    cases b with
    | true => exact h1.1 rfl m O0 H0 A σ H1 hG (R.step s1) Q fun w H2 y s2 r2 p => q w H2 y (s1.trans s2) r2 p
    | false => exact h1.2 rfl m O0 H0 A σ H1 hG (R.step s1) Q fun w H2 y s2 r2 p => q w H2 y (s1.trans s2) r2 p
theorem wp_chain {r r' : R2} {tc : TE} (h : WP B ta τ fun x => WP B tb τ fun y => OpD B r x y fun z => ∃ k : Bool, z = .bl k ∧ (k = true → WP B tc τ fun w => OpD B r' y w P) ∧ (k = false → P (.bl false))) : WP B (tChain r r' ta tb tc) τ P := by
  intro m O0 H0 A σ H hG R Q q
  refine h m O0 H0 A σ H hG R _ fun v H1 x s1 r1 h1 => ?_
  refine h1 m O0 H0 A σ H1 hG (R.step s1) _ fun w H2 y s2 r2 h2 => ?_
  refine h2 m _ H2 v w ((R.step s1).gd.step s2) (Rp.mono ((R.step s1).gd.er s2) _ _ r1) r2 _ fun u H3 d s3 r3 p => ?_
  obtain ⟨k, e, p1, p2⟩ := p
  subst e
  refine ⟨k, r3, ?_⟩
  have R3 := ((R.step s1).step s2).step s3
  cases k with
  | false => exact q _ H3 (.bl false) ((s1.trans s2).trans s3) rfl (p2 rfl)
  | true =>
    refine p1 rfl m O0 H0 A σ H3 hG R3 _ fun z H4 dz s4 r4 h4 => ?_
    exact h4 m _ H4 w z (R3.step s4).gd (Rp.mono (R3.gd.er s4) _ _ (Rp.mono (((R.step s1).step s2).gd.er s3) _ _ r2)) r4 Q fun u H5 d s5 r5 p => q u H5 d ((((s1.trans s2).trans s3).trans s4).trans s5) r5 p
/-! ### slices -/
theorem wo_none {P : Option Int → Prop} (p : P none) : WO B tNoPart τ P := fun m O0 H0 A σ H hG R Q q => q _ H R.gd.refl p
theorem wo_some {P : Option Int → Prop} (h : WP B te τ fun d => ∃ i, d = .int i ∧ P (some i)) : WO B (tPart te) τ P := fun m O0 H0 A σ H hG R Q q =>
  h m O0 H0 A σ H hG R _ fun v H1 d s1 r1 h1 => by
    obtain ⟨i, e, p⟩ := h1
    subst e
    exact ⟨i, r1, q _ H1 s1 p⟩
theorem wp_slS {tl th : TO} (h : WP B te τ fun d => ∃ z, d = .str z ∧ z.length ≤ 100000 ∧ WO B tl τ fun lo => WO B th τ fun hi => P (.str (cutS z lo hi))) : WP B (tSl rSlS te tl th) τ P := fun m O0 H0 A σ H hG R Q q =>
  h m O0 H0 A σ H hG R _ fun v H1 d s1 r1 h1 => by
    obtain ⟨z, e, hz, h1⟩ := h1
    subst e
    exact h1 m O0 H0 A σ H1 hG (R.step s1) _ fun lo H2 s2 h2 => h2 m O0 H0 A σ H2 hG ((R.step s1).step s2) _ fun hi H3 s3 p =>
      ⟨z, r1, Evl.sz_of hz, q _ H3 (.str (cutS z lo hi)) ((s1.trans s2).trans s3) rfl p⟩
def cutD (xs : List D) (lo hi : Option Int) : List D := (xs.drop (HT.sIx xs.length 0 lo)).take (HT.sIx xs.length xs.length hi - HT.sIx xs.length 0 lo)
theorem wp_slL {tl th : TO} (h : WP B te τ fun d => ∃ ds, d = .lst ds ∧ WO B tl τ fun lo => WO B th τ fun hi => P (.lst (cutD ds lo hi))) : WP B (tSl (rSlL B.K) te tl th) τ P := fun m O0 H0 A σ H hG R Q q =>
  h m O0 H0 A σ H hG R _ fun v H1 d s1 r1 h1 => by
    obtain ⟨ds, e, h1⟩ := h1
    subst e
    obtain ⟨a, xs, ev, ha, hl⟩ := r1
    refine h1 m O0 H0 A σ H1 hG (R.step s1) _ fun lo H2 s2 h2 => h2 m O0 H0 A σ H2 hG ((R.step s1).step s2) _ fun hi H3 s3 p => ?_
    have R3 := ((R.step s1).step s2).step s3
    have e13 := ((R.step s1).gd.er s2).trans (((R.step s1).step s2).gd.er s3)
    refine ⟨a, xs, ev, .inl (.inl (Er.sub _ _ (e13 _ _ ha))), fun b hb => q _ _ (.lst (cutD ds lo hi)) (((s1.trans s2).trans s3).trans (R3.gd.upd hb)) ⟨b, _, rfl, R3.gd.at hb, ?_⟩ p⟩
    unfold cutV cutD
    rw [← hl.length]
    exact RpL.take _ (RpL.drop _ (RpL.mono (R3.gd.er (R3.gd.upd hb)) _ _ (RpL.mono e13 _ _ hl)))
end

/-! ### promises -/
/-- a def that reads its arguments and hands back data; f: what is asked of the arguments, and of what is wanted of the answer -/
abbrev Fn := List D → (D → Prop) → Prop
def spP (K : PySem.W.Frag) (C : Addr) (f : Fn) : Sp := fun vs H Q _ => ∃ (O : List Addr) (ds : List D) (P : D → Prop), (∀ b ∈ O, H b ≠ none) ∧ RpL K C (Er O H) ds vs ∧ f ds P ∧ ∀ v H' d, Ex H H' → Rp K C (Er O H') d v → P d → Q v H'
/-- .. whose first argument is the stream -/
def spG (K : PySem.W.Frag) (C : Addr) (f : Fn) : Sp := fun vs H Q _ => ∃ (a : Addr) (us : List V) (O : List Addr) (ds : List D) (P : D → Prop), vs = .ref a :: us ∧ Gd (some a) O H ∧ RpL K C (Er O H) ds us ∧ f ds P ∧
  ∀ v H' d, Stp (some a) H H' → Rp K C (Er O H') d v → P d → Q v H'
/-- .. that may raise the error of the class at CB -/
abbrev FnX := List D → (D → Prop) → Prop → Prop
def spX (K : PySem.W.Frag) (C CB : Addr) (f : FnX) : Sp := fun vs H Q E => ∃ (O : List Addr) (ds : List D) (P : D → Prop) (PE : Prop), (∀ b ∈ O, H b ≠ none) ∧ RpL K C (Er O H) ds vs ∧ f ds P PE ∧
  (∀ v H' d, Ex H H' → Rp K C (Er O H') d v → P d → Q v H') ∧ (PE → ∀ H', Ex H H' → E (.ref CB) none H')
section
variable {B : Bx} {τ : List Sl} {P : D → Prop} {tr : TA} {E : XK}
theorem wp_call {f : Fn} (h : WA B tr τ fun ds => f ds P) : WP B (tCall (spP B.K B.C f) [] E tr) τ P := fun m O0 H0 A σ H hG R Q q =>
  h m O0 H0 A σ H hG R _ fun vs H1 ds s1 r1 p => by
    have g := (R.step s1).gd
    refine ⟨A ++ O0, ds, P, g.dom, by rw [List.append_nil]; exact r1, p, fun v H2 d e r2 p2 => q v H2 d (s1.trans (g.ex e)) r2 p2⟩
theorem wp_callG {f : Fn} {i : Nat} (hi : τ[i]? = some .strm) (h : WA B tr τ fun ds => f ds P) : WP B (tCall (spG B.K B.C f) [] E (tCons (tVar i) tr)) τ P := fun m O0 H0 A σ H hG R Q q => by
  obtain ⟨a, em, ea⟩ := R.sl i _ hi
  subst em
  refine ⟨_, ea, h _ O0 H0 A σ H hG R _ fun vs H1 ds s1 r1 p => ⟨a, vs, A ++ O0, ds, P, by rw [List.append_nil], (R.step s1).gd, r1, p, fun v H2 d s2 r2 p2 => q v H2 d (s1.trans s2) r2 p2⟩⟩
theorem wp_callX {f : FnX} {CB : Addr} (h : WA B tr τ fun ds => ∃ PE : Prop, f ds P PE ∧ (PE → ∀ m H0, B.G m H0 → ∀ H', Stp m H0 H' → E (.ref CB) none H')) : WP B (tCall (spX B.K B.C CB f) [] E tr) τ P := fun m O0 H0 A σ H hG R Q q =>
  h m O0 H0 A σ H hG R _ fun vs H1 ds s1 r1 p => by
    obtain ⟨PE, p, pe⟩ := p
    have g := (R.step s1).gd
    refine ⟨A ++ O0, ds, P, PE, g.dom, by rw [List.append_nil]; exact r1, p, fun v H2 d e r2 p2 => q v H2 d (s1.trans (g.ex e)) r2 p2, fun z H2 e => pe z m H0 hG H2 ((R.step s1).st.trans (g.ex e))⟩
end

/-! ### targets, statements -/
def WG (B : Bx) (g : TG) (d : D) (τ : List Sl) (P : List Sl → Prop) : Prop := ∀ (m : Option Addr) (O0 : List Addr) (H0 : Hp) (A : List Addr) (σ : L2.St) (H : Hp) (v : V), B.G m H0 → B.rep m O0 H0 A H σ τ → B.rp (Er (A ++ O0) H) d v →
  ∀ Q : L2.St → Hp → Prop, (∀ σ' τ', B.rep m O0 H0 A H σ' τ' → P τ' → Q σ' H) → g v σ H Q
def WGs (B : Bx) (g : TGs) (ds : List D) (τ : List Sl) (P : List Sl → Prop) : Prop := ∀ (m : Option Addr) (O0 : List Addr) (H0 : Hp) (A : List Addr) (σ : L2.St) (H : Hp) (vs : List V), B.G m H0 → B.rep m O0 H0 A H σ τ → B.rpl (Er (A ++ O0) H) ds vs →
  ∀ Q : L2.St → Hp → Prop, (∀ σ' τ', B.rep m O0 H0 A H σ' τ' → P τ' → Q σ' H) → g vs σ H Q
def WS (B : Bx) (ts : TS) (τ : List Sl) (Rt : D → Prop) (N Bk Ct : List Sl → Prop) : Prop := ∀ (m : Option Addr) (O0 : List Addr) (H0 : Hp) (A : List Addr) (σ : L2.St) (H : Hp), B.G m H0 → B.rep m O0 H0 A H σ τ → ∀ Dd : Ends,
  (∀ v H' d, Stp m H0 H' → B.rp (Er O0 H') d v → Rt d → Dd.rt v H') → (∀ A' σ' H' τ', Tr m A H A' H' → B.rep m O0 H0 A' H' σ' τ' → N τ' → Dd.nx σ' H') →
  (∀ A' σ' H' τ', Tr m A H A' H' → B.rep m O0 H0 A' H' σ' τ' → Bk τ' → Dd.bk σ' H') → (∀ A' σ' H' τ', Tr m A H A' H' → B.rep m O0 H0 A' H' σ' τ' → Ct τ' → Dd.ct σ' H') → ts Dd σ H
section
variable {B : Bx} {τ : List Sl} {P : D → Prop} {te ta tb : TE} {tt : TT} {tr : TA} {t u : TS} {Rt : D → Prop} {N Bk Ct : List Sl → Prop}
theorem wg_name {i : Nat} {d : D} {P : List Sl → Prop} (hi : i < τ.length) (p : P (τ.set i (.dat d))) : WG B (gName i) d τ P := fun m O0 H0 A σ H v hG R r Q q => q _ _ (R.set r hi) p
theorem wgs_nil {P : List Sl → Prop} (p : P τ) : WGs B gNil [] τ P := fun m O0 H0 A σ H vs hG R r Q q => ⟨r, q _ _ R p⟩
theorem wgs_cons {g : TG} {gs : TGs} {d : D} {ds : List D} {P : List Sl → Prop} (h : WG B g d τ fun τ' => WGs B gs ds τ' P) : WGs B (gCons g gs) (d :: ds) τ P := fun m O0 H0 A σ H vs hG R r Q q => by
  obtain ⟨v, us, ev, r1, r2⟩ := r
  exact ⟨v, us, ev, h m O0 H0 A σ H v hG R r1 _ fun σ' τ' R' p => p m O0 H0 A σ' H us hG R' r2 Q q⟩
theorem wg_tup {gs : TGs} {d : D} {n : Nat} {P : List Sl → Prop} (h : ∃ ds, d = .tup ds ∧ ds.length = n ∧ WGs B gs ds τ P) : WG B (gTup B.K n gs) d τ P := fun m O0 H0 A σ H v hG R r Q q => by
  obtain ⟨ds, e, hn, h⟩ := h
  subst e
  obtain ⟨a, xs, ev, ha, hl⟩ := r
  exact ⟨a, xs, ev, .inl (.inl (Er.sub _ _ ha)), by rw [← hl.length]; exact hn, h m O0 H0 A σ H xs hG R hl Q q⟩
theorem ws_next (h : N τ) : WS B tNext τ Rt N Bk Ct := fun m O0 H0 A σ H hG R Dd rt nx bk ct => nx A σ H τ R.trr R h
theorem ws_break (h : Bk τ) : WS B tBreak τ Rt N Bk Ct := fun m O0 H0 A σ H hG R Dd rt nx bk ct => bk A σ H τ R.trr R h
theorem ws_cont (h : Ct τ) : WS B tCont τ Rt N Bk Ct := fun m O0 H0 A σ H hG R Dd rt nx bk ct => ct A σ H τ R.trr R h
theorem ws_seq (h : WS B t τ Rt (fun τ' => WS B u τ' Rt N Bk Ct) Bk Ct) : WS B (tSeq t u) τ Rt N Bk Ct := fun m O0 H0 A σ H hG R Dd rt nx bk ct =>
  h m O0 H0 A σ H hG R _ rt (fun A' σ' H' τ' tr R' h' => h' m O0 H0 A' σ' H' hG R' Dd rt (fun A2 σ2 H2 τ2 tr2 => nx A2 σ2 H2 τ2 (tr.trans tr2)) (fun A2 σ2 H2 τ2 tr2 => bk A2 σ2 H2 τ2 (tr.trans tr2)) (fun A2 σ2 H2 τ2 tr2 => ct A2 σ2 H2 τ2 (tr.trans tr2))) bk ct
theorem ws_asg {g : TG} (h : WP B te τ fun d => WG B g d τ N) : WS B (tAsg te g) τ Rt N Bk Ct := fun m O0 H0 A σ H hG R Dd rt nx bk ct =>
  h m O0 H0 A σ H hG R _ fun v H1 d s1 r1 h1 => h1 m O0 H0 A σ H1 v hG (R.step s1) r1 _ fun σ' τ' R' p => nx A σ' H1 τ' (.of s1) R' p
theorem ws_ret (h : WP B te (frz τ) Rt) : WS B (tRet te) τ Rt N Bk Ct := fun m O0 H0 A σ H hG R Dd rt nx bk ct =>
  h m O0 H0 [] σ H hG R.frz _ fun v H1 d s1 r1 h1 => rt v H1 d (R.st.trans s1) r1 h1
theorem ws_drop (h : WP B te τ fun _ => N τ) : WS B (tDrop te) τ Rt N Bk Ct := fun m O0 H0 A σ H hG R Dd rt nx bk ct =>
  h m O0 H0 A σ H hG R _ fun v H1 d s1 r1 h1 => nx A σ H1 τ (.of s1) (R.step s1) h1
theorem ws_if (h : WT B tt τ fun b => (b = true → WS B t τ Rt N Bk Ct) ∧ (b = false → WS B u τ Rt N Bk Ct)) : WS B (tIfS tt t u) τ Rt N Bk Ct := fun m O0 H0 A σ H hG R Dd rt nx bk ct =>
  h m O0 H0 A σ H hG R _ fun b H1 s1 h1 => by
    have tr : Tr m A H A H1 := .of s1
    cases b with
    | true => exact h1.1 rfl m O0 H0 A σ H1 hG (R.step s1) Dd rt (fun A2 σ2 H2 τ2 tr2 => nx A2 σ2 H2 τ2 (tr.trans tr2)) (fun A2 σ2 H2 τ2 tr2 => bk A2 σ2 H2 τ2 (tr.trans tr2)) (fun A2 σ2 H2 τ2 tr2 => ct A2 σ2 H2 τ2 (tr.trans tr2))
    | false => exact h1.2 rfl m O0 H0 A σ H1 hG (R.step s1) Dd rt (fun A2 σ2 H2 τ2 tr2 => nx A2 σ2 H2 τ2 (tr.trans tr2)) (fun A2 σ2 H2 τ2 tr2 => bk A2 σ2 H2 τ2 (tr.trans tr2)) (fun A2 σ2 H2 τ2 tr2 => ct A2 σ2 H2 τ2 (tr.trans tr2))
/-- the own lists become data -/
theorem ws_frz (h : WS B t (frz τ) Rt N Bk Ct) : WS B t τ Rt N Bk Ct := fun m O0 H0 A σ H hG R Dd rt nx bk ct =>
  h m O0 H0 [] σ H hG R.frz Dd rt (fun A2 σ2 H2 τ2 tr2 => nx A2 σ2 H2 τ2 (R.tfrz.trans tr2)) (fun A2 σ2 H2 τ2 tr2 => bk A2 σ2 H2 τ2 (R.tfrz.trans tr2)) (fun A2 σ2 H2 τ2 tr2 => ct A2 σ2 H2 τ2 (R.tfrz.trans tr2))
theorem WS.imp {N' : List Sl → Prop} (h : WS B t τ Rt N Bk Ct) (g : ∀ τ', N τ' → N' τ') : WS B t τ Rt N' Bk Ct := fun m O0 H0 A σ H hG R Dd rt nx bk ct =>
  h m O0 H0 A σ H hG R Dd rt (fun A2 σ2 H2 τ2 tr2 R2 p => nx A2 σ2 H2 τ2 tr2 R2 (g τ2 p)) bk ct
/-- x = [], an own list -/
theorem ws_new {i : Nat} (hi : i < τ.length) (h : N (τ.set i (.own []))) : WS B (tAsg (tLst tNil) (gName i)) τ Rt N Bk Ct := fun m O0 H0 A σ H hG R Dd rt nx bk ct => by
  refine ⟨Nat.zero_le _, fun p hp => ?_⟩
  obtain ⟨R', tr⟩ := R.newOwn (s := .own []) (o := .lst []) hp hi rfl rfl
  exact nx _ _ _ _ tr R' h
theorem ws_newd {i : Nat} (hi : i < τ.length) (h : N (τ.set i (.ownd [] []))) : WS B (tAsg tDNewK (gName i)) τ Rt N Bk Ct := fun m O0 H0 A σ H hG R Dd rt nx bk ct => by
  refine fun p hp => ?_
  obtain ⟨R', tr⟩ := R.newOwn (s := .ownd [] []) (o := .dK []) hp hi rfl ⟨rfl, rfl, fun _ h => nomatch h⟩
  exact nx _ _ _ _ tr R' h
theorem Rep.ownAt {m : Option Addr} {O0 A : List Addr} {H0 H : Hp} {σ : L2.St} (R : B.rep m O0 H0 A H σ τ) {i : Nat} {ss : List Str} (h : τ[i]? = some (.own ss)) : ∃ a, σ[i]? = some (some (.ref a)) ∧ a ∈ A ∧ H a = some (.lst (ss.map V.str)) := by
  obtain ⟨a, o, e, ha, ho, q⟩ := R.sl i _ h
  exact ⟨a, e, ha, by rw [ho, show o = _ from q]⟩
/-- xs.append(e), xs an own list -/
theorem ws_app {i : Nat} {ss : List Str} (hi : τ[i]? = some (.own ss)) (h : WP B te (frz τ) fun d => ∃ x, d = .str x ∧ ss.length < 100000 ∧ N (τ.set i (.own (ss ++ [x])))) :
    WS B (tDrop (tBM B.K "list" rAppend (tVar i) (tCons te tNil))) τ Rt N Bk Ct := fun m O0 H0 A σ H hG R Dd rt nx bk ct => by
  obtain ⟨a, e, ha, ho⟩ := R.ownAt hi
  refine ⟨_, e, .inl ⟨rfl, _, .inl (.inl ho)⟩, h m O0 H0 [] σ H hG R.frz _ fun v H1 d s1 r1 h1 => ?_⟩
  obtain ⟨x, ed, hl, h1⟩ := h1
  subst ed
  have R1 := R.step s1
  have ho1 : H1 a = some (.lst (ss.map V.str)) := s1.keep _ _ (R.nom ha) ho
  obtain ⟨R2, tr⟩ := R1.write (s' := .own (ss ++ [x])) (o' := .lst (ss.map V.str ++ [v])) hi rfl e ha rfl (by
    show _ = HO.lst ((ss ++ [x]).map V.str)
    rw [List.map_append, show v = .str x from r1]; rfl)
  exact ⟨a, _, v, rfl, rfl, ho1, by rw [List.length_map]; exact Evl.sz_lt hl, nx _ _ _ _ ((Tr.of s1).trans tr) R2 h1⟩
/-- xs[j] = e, xs an own list -/
theorem ws_setI {i : Nat} {ss : List Str} (hi : τ[i]? = some (.own ss)) (h : WP B te (frz τ) fun d => ∃ x, d = .str x ∧ WP B ta (frz τ) fun k => ∃ (z : Int) (j : Nat), k = .int z ∧ ixN ss.length z = some j ∧ N (τ.set i (.own (ss.set j x)))) :
    WS B (tAsg te (gSub (tVar i) ta rSetL)) τ Rt N Bk Ct := fun m O0 H0 A σ H hG R Dd rt nx bk ct => by
  refine h m O0 H0 [] σ H hG R.frz _ fun v H1 d s1 r1 h1 => ?_
  obtain ⟨x, ed, h1⟩ := h1
  subst ed
  obtain ⟨a, e, ha, ho⟩ := R.ownAt hi
  refine ⟨_, e, h1 m O0 H0 [] σ H1 hG (R.frz.step s1) _ fun w H2 k s2 r2 h2 => ?_⟩
  obtain ⟨z, j, ek, hj, h2⟩ := h2
  subst ek
  have R2 := (R.step s1).step s2
  have ho2 : H2 a = some (.lst (ss.map V.str)) := s2.keep _ _ (R.nom ha) (s1.keep _ _ (R.nom ha) ho)
  obtain ⟨R3, tr⟩ := R2.write (s' := .own (ss.set j x)) (o' := .lst ((ss.map V.str).set j v)) hi rfl e ha rfl (by
    show _ = HO.lst ((ss.set j x).map V.str)
    rw [List.map_set, show v = .str x from r1])
  exact ⟨a, _, z, j, rfl, r2, ho2, by rw [List.length_map]; exact hj, nx _ _ _ _ ((Tr.of (s1.trans s2)).trans tr) R3 h2⟩
end
end K15
/-! walked things (WI), for, while, list comprehensions; a def's promise from its body's reading. -/
namespace K15
open PySem PySem.Spec PyProof.Rows L2
open Evl (Ex ex_rd ex_l ex_t)
set_option autoImplicit false
section
variable {K : PySem.W.Frag} {C : Addr} {m : Option Addr} {O0 A A' : List Addr} {H0 H H' : Hp} {σ : L2.St} {τ : List Sl} {p : Addr} {o : HO}
theorem Tr.er (t : Tr m A H A' H') (mo : ∀ a, m = some a → a ∈ O0) : Ex (Er (A ++ O0) H) (Er (A' ++ O0) H') := fun b u e => by
  obtain ⟨n, e⟩ := Er.some e
  have nA : b ∉ A := fun z => n (List.mem_append_left _ z)
  have nO : b ∉ O0 := fun z => n (List.mem_append_right _ z)
  refine Er.mk (fun z => ?_) (t.keep b u (fun z => nO (mo b z.symm)) nA e)
  rcases List.mem_append.mp z with q | q
  · rcases t.new b q with w | w
    · exact nA w
    · rw [e] at w; cases w
  · exact nO q
theorem Rep.addA (r : Rep K C m O0 H0 A H σ τ) (hp : H p = none) : Rep K C m O0 H0 (p :: A) (upd H p o) σ τ := by
  have g := r.gd
  have st := g.upd (o := o) hp
  have r1 := r.step st
  have hp0 : H0 p = none := by
    cases e : H0 p with
    | none => rfl
    | some u =>
      by_cases z : some p = m
      · obtain ⟨d, t, w⟩ := r.st.strm p z.symm
        rw [hp] at w; cases w
      · rw [r.st.keep p u z e] at hp; cases hp
  have ex : Ex (Er (A ++ O0) H) (Er (p :: A ++ O0) (upd H p o)) := fun b u e => by
    obtain ⟨n, e⟩ := Er.some e
    have nb : b ≠ p := fun z => by rw [z, hp] at e; cases e
    exact Er.mk (fun z => (List.mem_cons.mp z).elim nb n) (by rw [upd_ne nb]; exact e)
  have ne : ∀ b u, H b = some u → b ≠ p := fun b u w z => by rw [z, hp] at w; cases w
  refine ⟨r.len, fun j t e => ?_, r.uniq, r.dom, r.mo, r1.st, fun b hb => ?_, fun b hb => ?_⟩
  · have h := r.sl j t e
    cases t with
    | un => trivial
    | dat d => obtain ⟨v, e, q⟩ := h; exact ⟨v, e, Rp.mono ex _ _ q⟩
    | strm => exact h
    | own ss => obtain ⟨b, u, ex, hb, hbo, q⟩ := h; exact ⟨b, u, ex, List.mem_cons_of_mem _ hb, by rw [upd_ne (ne b u hbo)]; exact hbo, q⟩
    | ownd ks ds => obtain ⟨b, u, ex, hb, hbo, q⟩ := h; exact ⟨b, u, ex, List.mem_cons_of_mem _ hb, by rw [upd_ne (ne b u hbo)]; exact hbo, q⟩
  · rcases List.mem_cons.mp hb with z | z
    · rw [z]; exact hp0
    · exact r.fresh b z
  · rcases List.mem_cons.mp hb with z | z
    · rw [z, upd_same]; exact fun w => nomatch w
    · exact r1.domA b z
theorem Rep.ownIn (r : Rep K C m O0 H0 A H σ τ) {i : Nat} {s : Sl} {a : Addr} (h : τ[i]? = some s) (ho : s.isOwn = true) (e : σ[i]? = some (some (.ref a))) : a ∈ A := by
  have h := r.sl i s h
  cases s with
  | un => cases ho
  | dat d => cases ho
  | strm => cases ho
  | own ss => obtain ⟨b, u, ex, hb, _⟩ := h; rw [e] at ex; cases ex; exact hb
  | ownd ks ds => obtain ⟨b, u, ex, hb, _⟩ := h; rw [e] at ex; cases ex; exact hb
theorem Rep.updX (r : Rep K C m O0 H0 A H σ τ) (hp : p ∈ A) (ho : ∀ (i : Nat) (s : Sl), τ[i]? = some s → s.isOwn = true → σ[i]? ≠ some (some (.ref p))) : Rep K C m O0 H0 A (upd H p o) σ τ := by
  have nm := r.nom hp
  have kp : ∀ b u, b ∉ A ++ O0 → H b = some u → upd H p o b = some u := fun b u hb e => by
    rw [upd_ne (fun z => hb (by rw [z]; exact List.mem_append_left _ hp))]; exact e
  have st : Stp m H0 (upd H p o) := ⟨fun b u n e => by rw [upd_ne (fun z => by rw [z, r.fresh p hp] at e; cases e)]; exact r.st.keep b u n e, fun b e => by
    obtain ⟨d, t, w⟩ := r.st.strm b e
    exact ⟨d, t, by rw [upd_ne (fun z => nm (by rw [← z]; exact e.symm))]; exact w⟩⟩
  refine ⟨r.len, fun j t e => ?_, r.uniq, r.dom, r.mo, st, r.fresh, fun b hb => ?_⟩
  · have h := r.sl j t e
    cases t with
    | un => trivial
    | dat d => obtain ⟨v, e, q⟩ := h; exact ⟨v, e, Rp.mono (Er.ex kp) _ _ q⟩
    | strm => exact h
    | own ss =>
      obtain ⟨b, u, ex, hb, hbo, q⟩ := h
      exact ⟨b, u, ex, hb, by rw [upd_ne (fun z => ho j _ e rfl (by rw [← z]; exact ex))]; exact hbo, q⟩
    | ownd ks ds =>
      obtain ⟨b, u, ex, hb, hbo, q⟩ := h
      exact ⟨b, u, ex, hb, by rw [upd_ne (fun z => ho j _ e rfl (by rw [← z]; exact ex))]; exact hbo, q⟩
  · by_cases z : b = p
    · rw [z, upd_same]; exact fun w => nomatch w
    · rw [upd_ne z]; exact r.domA b hb
end
/-- J walks the data ds -/
def Walks (B : Bx) (J : It) (ds : List D) (m : Option Addr) (O0 A : List Addr) (H : Hp) : Prop := ∀ A' H', Tr m A H A' H' → Gd m (A' ++ O0) H' → ∀ i,
  (i < ds.length → J.go i H' ∧ ∀ x H'', J.yld i H' x H'' → Stp m H' H'' ∧ ∃ d, ds[i]? = some d ∧ B.rp (Er (A' ++ O0) H'') d x) ∧ (ds.length ≤ i → J.stop i H')
def WI (B : Bx) (wi : TI) (τ : List Sl) (P : List D → Prop) : Prop := ∀ (m : Option Addr) (O0 : List Addr) (H0 : Hp) (A : List Addr) (σ : L2.St) (H : Hp), B.G m H0 → B.rep m O0 H0 A H σ τ →
  ∀ R : It → Hp → Prop, (∀ J H' ds, Stp m H H' → Walks B J ds m O0 A H' → P ds → R J H') → wi σ H R
section
variable {B : Bx} {τ : List Sl} {te tl : TE} {ta : TA} {P : List D → Prop}
theorem wi_list (h : WP B tl τ fun d => ∃ ds, d = .lst ds ∧ P ds) : WI B (iList B.K tl) τ P := fun m O0 H0 A σ H hG R Q q => by
  refine h m O0 H0 A σ H hG R _ fun v H1 d s1 r1 h1 => ?_
  obtain ⟨ds, e, p⟩ := h1
  subst e
  obtain ⟨a, xs, ev, ha, hl⟩ := r1
  refine ⟨a, ev, ⟨xs, .inl (.inl (Er.sub _ _ ha))⟩, q _ _ ds s1 (fun A' H' t g i => ?_) p⟩
  have ex := t.er R.mo
  have ha' : H' a = some (.lst xs) := Er.sub _ _ (ex _ _ ha)
  refine ⟨fun hi => ?_, fun hi => ⟨xs, .inl (.inl ha'), by rw [← hl.length]; exact hi⟩⟩
  have hx : i < xs.length := by rw [← hl.length]; exact hi
  refine ⟨⟨xs, _, .inl (.inl ha'), List.getElem?_eq_getElem hx⟩, fun x H'' y => ?_⟩
  obtain ⟨e, y⟩ := y
  subst e
  obtain ⟨d, e1, e2⟩ := hl.get' (y xs (.inl (.inl ha')))
  exact ⟨g.refl, d, e1, Rp.mono ex _ _ e2⟩
theorem wi_tup (h : WP B tl τ fun d => ∃ ds, d = .tup ds ∧ P ds) : WI B (iTup B.K tl) τ P := fun m O0 H0 A σ H hG R Q q => by
  refine h m O0 H0 A σ H hG R _ fun v H1 d s1 r1 h1 => ?_
  obtain ⟨ds, e, p⟩ := h1
  subst e
  obtain ⟨a, xs, ev, ha, hl⟩ := r1
  refine ⟨a, ev, ⟨xs, .inl (.inl (Er.sub _ _ ha))⟩, q _ _ ds s1 (fun A' H' t g i => ?_) p⟩
  have ex := t.er R.mo
  have ha' : H' a = some (.tup xs) := Er.sub _ _ (ex _ _ ha)
  refine ⟨fun hi => ?_, fun hi => ⟨xs, .inl (.inl ha'), by rw [← hl.length]; exact hi⟩⟩
  have hx : i < xs.length := by rw [← hl.length]; exact hi
  refine ⟨⟨xs, _, .inl (.inl ha'), List.getElem?_eq_getElem hx⟩, fun x H'' y => ?_⟩
  obtain ⟨e, y⟩ := y
  subst e
  obtain ⟨d, e1, e2⟩ := hl.get' (y xs (.inl (.inl ha')))
  exact ⟨g.refl, d, e1, Rp.mono ex _ _ e2⟩
def chD (x : Str) : List D := (TL.tl x).map fun c => .str ⟨#[c]⟩
theorem wi_str (h : WP B te τ fun d => ∃ x, d = .str x ∧ P (chD x)) : WI B (iStr te) τ P := fun m O0 H0 A σ H hG R Q q => by
  refine h m O0 H0 A σ H hG R _ fun v H1 d s1 r1 h1 => ?_
  obtain ⟨x, e, p⟩ := h1
  subst e
  have hz : (chD x).length = x.cps.size := by unfold chD; rw [List.length_map]; exact Array.length_toList
  refine ⟨x, r1, q _ _ (chD x) s1 (fun A' H' t g i => ⟨fun hi => ⟨show i < x.cps.size from hz ▸ hi, fun v H'' y => ?_⟩, fun hi => show x.cps.size ≤ i from hz ▸ hi⟩) p⟩
  obtain ⟨e, c, hc, ev⟩ := y
  subst e
  refine ⟨g.refl, .str ⟨#[c]⟩, ?_, ev⟩
  unfold chD
  rw [List.getElem?_map, show (TL.tl x)[i]? = some c from by rw [← hc]; simp [TL.tl]]; rfl
theorem chD_get {x : Str} {i : Nat} {d : D} (h : (chD x)[i]? = some d) : ∃ c, (TL.tl x)[i]? = some c ∧ d = .str ⟨#[c]⟩ := by
  unfold chD at h
  rw [List.getElem?_map] at h
  obtain ⟨c, hc, e⟩ := Option.map_eq_some_iff.mp h
  exact ⟨c, hc, e.symm⟩
theorem chD_len {x : Str} : (chD x).length = x.length := by unfold chD; rw [List.length_map, TL.len_tl]
def rgD (lo : Int) (n : Nat) : List D := (List.range n).map fun k => .int (lo + (k : Nat))
theorem rgD_len (lo : Int) (n : Nat) : (rgD lo n).length = n := by unfold rgD; rw [List.length_map, List.length_range]
theorem rgD_get {lo : Int} {n i : Nat} {d : D} (h : (rgD lo n)[i]? = some d) : i < n ∧ d = .int (lo + (i : Nat)) := by
  have hi : i < n := by
    have := (List.getElem?_eq_some_iff.mp h).1
    rwa [rgD_len] at this
  unfold rgD at h
  rw [List.getElem?_map, List.getElem?_range hi] at h
  cases h
  exact ⟨hi, rfl⟩
theorem rgD_at {lo : Int} {n i : Nat} (h : i < n) : (rgD lo n)[i]? = some (.int (lo + (i : Nat))) := by
  unfold rgD
  rw [List.getElem?_map, List.getElem?_range h]; rfl
theorem walks_r {lo : Int} {n : Nat} {m : Option Addr} {O0 A : List Addr} {H : Hp} : Walks B (Itr lo n) (rgD lo n) m O0 A H := fun A' H' t g i =>
  ⟨fun hi => ⟨by rw [rgD_len] at hi; exact hi, fun x H'' y => by
    obtain ⟨e, ev⟩ := y
    subst e
    rw [rgD_len] at hi
    exact ⟨g.refl, _, rgD_at hi, ev⟩⟩, fun hi => by rw [rgD_len] at hi; exact hi⟩
theorem wi_r1 (h : WA B ta τ fun ds => ∃ j : Int, ds = [.int j] ∧ -(2 ^ 62) ≤ j ∧ j < 2 ^ 62 ∧ P (rgD 0 j.toNat)) : WI B (iRng1 ta) τ P := fun m O0 H0 A σ H hG R Q q => by
  refine h m O0 H0 A σ H hG R _ fun vs H1 ds s1 r1 h1 => ?_
  obtain ⟨j, e, b1, b2, p⟩ := h1
  subst e
  obtain ⟨v, r, ev, r2, r3⟩ := r1
  exact ⟨j, by rw [ev, show v = .int j from r2, show r = [] from r3], b1, b2, q _ _ _ s1 walks_r p⟩
theorem wi_r2 (h : WA B ta τ fun ds => ∃ i j : Int, ds = [.int i, .int j] ∧ (-(2 ^ 62) ≤ i ∧ i < 2 ^ 62 ∧ -(2 ^ 62) ≤ j ∧ j < 2 ^ 62) ∧ P (rgD i (j - i).toNat)) : WI B (iRng2 ta) τ P := fun m O0 H0 A σ H hG R Q q => by
  refine h m O0 H0 A σ H hG R _ fun vs H1 ds s1 r1 h1 => ?_
  obtain ⟨i, j, e, b, p⟩ := h1
  subst e
  obtain ⟨v, r, ev, r2, r3⟩ := r1
  obtain ⟨v', r', ev', r2', r3'⟩ := r3
  exact ⟨i, j, by rw [ev, show v = .int i from r2, ev', show v' = .int j from r2', show r' = [] from r3'], b, q _ _ _ s1 walks_r p⟩
end
section
variable {B : Bx} {τ : List Sl} {Rt : D → Prop} {N Bk Ct : List Sl → Prop} {wi : TI} {g : TG} {tb : TS} {tt : TT} {te : TE}
/-- for: Inv by the turn and the state -/
def ForInv (B : Bx) (g : TG) (tb : TS) (τ : List Sl) (Rt : D → Prop) (N : List Sl → Prop) (ds : List D) : Prop := ∃ Inv : Nat → List Sl → Prop, Inv 0 τ ∧ (∀ (i : Nat) (d : D) (τ' : List Sl), ds[i]? = some d → Inv i τ' → WG B g d τ' fun τ2 => WS B tb τ2 Rt (Inv (i + 1)) N (Inv (i + 1))) ∧ ∀ τ', Inv ds.length τ' → N τ'
theorem ForInv.mk {ds : List D} (Inv : Nat → List Sl → Prop) (h0 : Inv 0 τ) (hs : ∀ (i : Nat) (d : D) (τ' : List Sl), ds[i]? = some d → Inv i τ' → WG B g d τ' fun τ2 => WS B tb τ2 Rt (Inv (i + 1)) N (Inv (i + 1))) (hd : ∀ τ', Inv ds.length τ' → N τ') : ForInv B g tb τ Rt N ds := ⟨Inv, h0, hs, hd⟩
theorem ws_for (h : WI B wi τ fun ds => ForInv B g tb τ Rt N ds) :
    WS B (tFor wi g tb) τ Rt N Bk Ct := fun m O0 H0 A σ H hG R Dd rt nx bk ct => by
  refine h m O0 H0 A σ H hG R _ fun J H1 ds s1 W h1 => ?_
  obtain ⟨Inv, i0, step, fin⟩ := h1
  refine ⟨fun i k σ' H' => i + k = ds.length ∧ ∃ A' τ', Tr m A H1 A' H' ∧ B.rep m O0 H0 A' H' σ' τ' ∧ Inv i τ', ⟨ds.length, by omega, A, τ, (R.step s1).trr, R.step s1, i0⟩, fun i k σ' H' hW => ?_⟩
  obtain ⟨ek, A', τ', t, R', hI⟩ := hW
  have w := W A' H' t R'.gd i
  by_cases hi : i < ds.length
  · obtain ⟨go, y⟩ := w.1 hi
    refine .inr ⟨go, fun σ2 H2 => ∃ A2 τ2, Tr m A H1 A2 H2 ∧ B.rep m O0 H0 A2 H2 σ2 τ2 ∧ Inv (i + 1) τ2, fun σ2 H2 hN => ⟨k - 1, by omega, by omega, hN⟩, fun x H2 yx => ?_⟩
    obtain ⟨s2, d, hd, rx⟩ := y x H2 yx
    have R2 := R'.step s2
    have t2 : Tr m A H1 A' H2 := t.trans (.of s2)
    refine step i d τ' hd hI m O0 H0 A' σ' H2 x hG R2 rx _ fun σ3 τ3 R3 p => ?_
    refine p m O0 H0 A' σ3 H2 hG R3 _ rt (fun A4 σ4 H4 τ4 t4 R4 q => ⟨A4, τ4, t2.trans t4, R4, q⟩) (fun A4 σ4 H4 τ4 t4 R4 q => nx A4 σ4 H4 τ4 ((Tr.of s1).trans (t2.trans t4)) R4 q) (fun A4 σ4 H4 τ4 t4 R4 q => ⟨A4, τ4, t2.trans t4, R4, q⟩)
  · refine .inl ⟨w.2 (by omega), nx A' σ' H' τ' ((Tr.of s1).trans t) R' (fin τ' ?_)⟩
    have : i = ds.length := by omega
    rw [← this]; exact hI
theorem ws_while (Inv : Nat → List Sl → Prop) (k0 : Nat) (i0 : Inv k0 τ) (step : ∀ k τ', Inv k τ' → WT B tt τ' fun b => (b = true → WS B tb τ' Rt (fun τ2 => ∃ k', k' < k ∧ Inv k' τ2) N (fun τ2 => ∃ k', k' < k ∧ Inv k' τ2)) ∧ (b = false → N τ')) :
    WS B (tWhile tt tb) τ Rt N Bk Ct := fun m O0 H0 A σ H hG R Dd rt nx bk ct => by
  refine ⟨fun k σ' H' => ∃ A' τ', Tr m A H A' H' ∧ B.rep m O0 H0 A' H' σ' τ' ∧ Inv k τ', ⟨k0, A, τ, R.trr, R, i0⟩, fun k σ' H' hW => ?_⟩
  obtain ⟨A', τ', t, R', hI⟩ := hW
  refine step k τ' hI m O0 H0 A' σ' H' hG R' _ fun b H1 s1 h1 => ?_
  have t1 : Tr m A H A' H1 := t.trans (.of s1)
  cases b with
  | false => exact nx A' σ' H1 τ' t1 (R'.step s1) (h1.2 rfl)
  | true =>
    refine ⟨fun σ2 H2 => ∃ k', k' < k ∧ ∃ A2 τ2, Tr m A H A2 H2 ∧ B.rep m O0 H0 A2 H2 σ2 τ2 ∧ Inv k' τ2, fun σ2 H2 hN => hN, ?_⟩
    refine h1.1 rfl m O0 H0 A' σ' H1 hG (R'.step s1) _ rt (fun A4 σ4 H4 τ4 t4 R4 q => ?_) (fun A4 σ4 H4 τ4 t4 R4 q => nx A4 σ4 H4 τ4 (t1.trans t4) R4 q) (fun A4 σ4 H4 τ4 t4 R4 q => ?_)
    · obtain ⟨k', hk, q⟩ := q; exact ⟨k', hk, A4, τ4, t1.trans t4, R4, q⟩
    · obtain ⟨k', hk, q⟩ := q; exact ⟨k', hk, A4, τ4, t1.trans t4, R4, q⟩
/-! ### comprehensions -/
def wipeS (τ : List Sl) : List Nat → List Sl
  | [] => τ
  | v :: vs => (wipeS τ vs).set v .un
theorem Rep.wipe {K : PySem.W.Frag} {C : Addr} {m : Option Addr} {O0 A : List Addr} {H0 H : Hp} {σ : L2.St} {τ : List Sl} (r : Rep K C m O0 H0 A H σ τ) : ∀ vs : List Nat, Rep K C m O0 H0 A H (L2.wipe σ vs) (wipeS τ vs)
  | [] => r
  | v :: vs => (r.wipe vs).wipe1
/-- the target within the block: the slots but the block's own stay -/
def WGw (B : Bx) (g : TG) (d : D) (τ : List Sl) (vs : List Nat) (P : List Sl → Prop) : Prop := ∀ (m : Option Addr) (O0 : List Addr) (H0 : Hp) (A : List Addr) (σ : L2.St) (H : Hp) (v : V), B.G m H0 → B.rep m O0 H0 A H (L2.wipe σ vs) τ → B.rp (Er (A ++ O0) H) d v →
  ∀ Q : L2.St → Hp → Prop, (∀ σ' τ', B.rep m O0 H0 A H σ' τ' → L2.wipe σ' vs = L2.wipe σ vs → P τ' → Q σ' H) → g v (L2.wipe σ vs) H Q
theorem wgw_name {j : Nat} {d : D} {P : List Sl → Prop} (hj : j < τ.length) (p : P (τ.set j (.dat d))) : WGw B (gName j) d τ [j] P := fun m O0 H0 A σ H v hG R r Q q =>
  q _ _ (R.set r hj) (by show (((σ.set j none).set j (some v)).set j none) = σ.set j none; rw [List.set_set, List.set_set]) p
theorem wgw_pair {j k : Nat} {x y : D} {P : List Sl → Prop} (hj : j < τ.length) (hk : k < τ.length) (hn : j ≠ k) (p : P ((τ.set j (.dat x)).set k (.dat y))) : WGw B (gTup B.K 2 (gCons (gName j) (gCons (gName k) gNil))) (.tup [x, y]) τ [j, k] P := fun m O0 H0 A σ H v hG R r Q q => by
  obtain ⟨a, xs, ev, ha, hl⟩ := r
  obtain ⟨u, us, e1, r1, w, ws, e2, r2, e3⟩ := hl
  subst e3
  subst e2
  subst e1
  refine ⟨a, _, ev, .inl (.inl (Er.sub _ _ ha)), rfl, u, _, rfl, w, _, rfl, rfl, ?_⟩
  refine q _ _ ((R.set r1 hj).set r2 (by rw [List.length_set]; exact hk)) ?_ p
  show (((((σ.set k none).set j none).set j (some u)).set k (some w)).set k none).set j none = (σ.set k none).set j none
  rw [List.set_set, List.set_set, List.set_comm _ _ (Ne.symm hn), List.set_set, List.set_comm _ _ hn, List.set_set]
def LcInv (B : Bx) (g : TG) (tt : TT) (te : TE) (vs : List Nat) (τ : List Sl) (P : D → Prop) (ds : List D) : Prop := ds.length ≤ 100000 ∧ ∃ I : Nat → List D → Prop, I 0 [] ∧ (∀ (i : Nat) (d : D) (acc : List D), ds[i]? = some d → I i acc → WGw B g d (wipeS τ vs) vs fun τ2 => WT B tt τ2 fun b =>
      (b = true → WP B te τ2 fun y => I (i + 1) (acc ++ [y])) ∧ (b = false → I (i + 1) acc)) ∧ ∀ acc, I ds.length acc → P (.lst acc)
theorem LcInv.mk {vs : List Nat} {P : D → Prop} {ds : List D} (h : ds.length ≤ 100000) (I : Nat → List D → Prop) (h0 : I 0 []) (hs : ∀ (i : Nat) (d : D) (acc : List D), ds[i]? = some d → I i acc → WGw B g d (wipeS τ vs) vs fun τ2 => WT B tt τ2 fun b =>
      (b = true → WP B te τ2 fun y => I (i + 1) (acc ++ [y])) ∧ (b = false → I (i + 1) acc)) (hd : ∀ acc, I ds.length acc → P (.lst acc)) : LcInv B g tt te vs τ P ds := ⟨h, I, h0, hs, hd⟩
theorem wp_lc {vs : List Nat} {P : D → Prop} (h : WI B wi τ fun ds => LcInv B g tt te vs τ P ds) : WP B (tLc wi g tt te vs) τ P := fun m O0 H0 A σ H hG R Q q => by
  refine h m O0 H0 A σ H hG R _ fun J H1 ds s1 W h1 Dl hD => ?_
  obtain ⟨hlen, I, i0, step, fin⟩ := h1
  have R1 := R.step s1
  have nA : Dl ∉ A := fun z => R1.domA Dl z hD
  have nO : Dl ∉ A ++ O0 := R1.gd.new hD
  have nm : some Dl ≠ m := fun z => nO (R1.gd.mo Dl z.symm)
  have Rw := R1.wipe vs
  have own : ∀ (i : Nat) (s : Sl), (wipeS τ vs)[i]? = some s → s.isOwn = true → (L2.wipe σ vs)[i]? ≠ some (some (.ref Dl)) := fun i s e o z => nA (Rw.ownIn e o z)
  refine ⟨fun i k H' => i + k = ds.length ∧ ∃ acc xs, Stp m H1 H' ∧ H' Dl = some (.lst xs) ∧ B.rpl (Er ((Dl :: A) ++ O0) H') acc xs ∧ I i acc ∧ acc.length ≤ i ∧ B.rep m O0 H0 (Dl :: A) H' (L2.wipe σ vs) (wipeS τ vs),
    ⟨ds.length, by omega, [], [], R1.gd.upd hD, upd_same, rfl, i0, Nat.le_refl _, Rw.addA hD⟩, fun i k H' hW => ?_⟩
  obtain ⟨ek, acc, xs, st, hDl, hacc, hI, hle, Rx⟩ := hW
  have t : Tr m A H1 (Dl :: A) H' := ⟨fun b o n _ e => st.keep b o n e, fun b hb => (List.mem_cons.mp hb).elim (fun z => .inr (by rw [z]; exact hD)) .inl, st.strm⟩
  have w := W (Dl :: A) H' t Rx.gd i
  by_cases hi : i < ds.length
  · obtain ⟨go, y⟩ := w.1 hi
    refine .inr ⟨go, fun H2 => ∃ acc xs, Stp m H1 H2 ∧ H2 Dl = some (.lst xs) ∧ B.rpl (Er ((Dl :: A) ++ O0) H2) acc xs ∧ I (i + 1) acc ∧ acc.length ≤ i + 1 ∧ B.rep m O0 H0 (Dl :: A) H2 (L2.wipe σ vs) (wipeS τ vs),
      fun H2 hN => ⟨k - 1, by omega, by omega, hN⟩, fun x H2 yx => ?_⟩
    obtain ⟨s2, d, hd, rx⟩ := y x H2 yx
    have R2 := Rx.step s2
    refine step i d acc hd hI m O0 H0 (Dl :: A) σ H2 x hG R2 rx _ fun σ3 τ3 R3 ew p => ⟨ew, ?_⟩
    refine p m O0 H0 (Dl :: A) σ3 H2 hG R3 _ fun b H3 s3 hb => ?_
    cases b with
    | false =>
      have s23 := s2.trans s3
      exact ⟨acc, xs, st.trans s23, s23.keep _ _ nm hDl, RpL.mono (Rx.gd.er s23) _ _ hacc, hb.2 rfl, by omega, Rx.step s23⟩
    | true =>
      refine hb.1 rfl m O0 H0 (Dl :: A) σ3 H3 hG (R3.step s3) _ fun v H4 y s4 r4 p4 => ?_
      have s24 := (s2.trans s3).trans s4
      have hD4 : H4 Dl = some (.lst xs) := s24.keep _ _ nm hDl
      have hl : xs.length < sizeLine := by rw [← hacc.length]; exact Evl.sz_lt (by omega)
      have kp : ∀ b o, b ∉ (Dl :: A) ++ O0 → H4 b = some o → upd H4 Dl (.lst (xs ++ [v])) b = some o := fun b o hb e => by
        rw [upd_ne (fun z => hb (by rw [z]; exact List.mem_cons_self))]; exact e
      refine ⟨xs, hD4, hl, acc ++ [y], xs ++ [v], ?_, upd_same, RpL.mono (Er.ex kp) _ _ ((RpL.mono (Rx.gd.er s24) _ _ hacc).append ⟨v, [], rfl, r4, rfl⟩), p4, by rw [List.length_append]; show acc.length + 1 ≤ i + 1; omega, (Rx.step s24).updX List.mem_cons_self own⟩
      have s := st.trans s24
      exact ⟨fun b o n e => by rw [upd_ne (fun z => by rw [z, hD] at e; cases e)]; exact s.keep b o n e, fun a e => by
        obtain ⟨d, t, w⟩ := s.strm a e
        exact ⟨d, t, by rw [upd_ne (fun z => nm (by rw [← z]; exact e.symm))]; exact w⟩⟩
  · refine .inl ⟨w.2 (by omega), q _ _ (.lst acc) (s1.trans st) ⟨Dl, xs, rfl, Er.mk nO hDl, RpL.mono (Er.shrink fun b hb => List.mem_cons_of_mem _ hb) _ _ hacc⟩ (fin acc ?_)⟩
    have : i = ds.length := by omega
    rw [← this]; exact hI
/-- no test: each item gives one -/
theorem wt_yes {P : Bool → Prop} (p : P true) : WT B tYes τ P := fun m O0 H0 A σ H hG R Q q => q true H R.gd.refl p
/-- [f(x) for x in ..], one name -/
theorem LcInv.map {j : Nat} {P : D → Prop} {ds : List D} (f : D → D) (hj : j < τ.length) (h : ds.length ≤ 100000) (hs : ∀ (i : Nat) (d : D), ds[i]? = some d → WP B te (τ.set j (.dat d)) fun y => y = f d) (hp : P (.lst (ds.map f))) : LcInv B (gName j) tYes te [j] τ P ds := by
  refine .mk h (fun i acc => acc = (ds.take i).map f) (by simp) (fun i d acc hd hI => ?_) (fun acc hI => ?_)
  · refine wgw_name (by show j < (τ.set j .un).length; rw [List.length_set]; exact hj) (wt_yes ⟨fun _ => ?_, fun z => by cases z⟩)
    show WP B te ((τ.set j .un).set j (.dat d)) _
    rw [List.set_set]
    refine (hs i d hd).imp fun y e => ?_
    subst e
    show acc ++ [f d] = (ds.take (i + 1)).map f
    rw [show acc = _ from hI, List.take_add_one, hd]; simp
  · rw [hI, List.take_length]; exact hp
/-- [x for x in .. if t], one name -/
theorem LcInv.filter {j : Nat} {P : D → Prop} {ds : List D} (f : D → Bool) (hj : j < τ.length) (h : ds.length ≤ 100000) (hs : ∀ (i : Nat) (d : D), ds[i]? = some d → WT B tt (τ.set j (.dat d)) fun b => b = f d) (hp : P (.lst (ds.filter f))) : LcInv B (gName j) tt (tVar j) [j] τ P ds := by
  refine .mk h (fun i acc => acc = (ds.take i).filter f) (by simp) (fun i d acc hd hI => ?_) (fun acc hI => ?_)
  · refine wgw_name (by show j < (τ.set j .un).length; rw [List.length_set]; exact hj) ?_
    show WT B tt ((τ.set j .un).set j (.dat d)) _
    rw [List.set_set]
    refine (hs i d hd).imp fun b e => ⟨fun z => wp_var (d := d) (by show ((τ.set j .un).set j (.dat d))[j]? = _; rw [List.set_set, List.getElem?_set_self hj]) ?_, fun z => ?_⟩
    · have hf : f d = true := by rw [← e]; exact z
      show acc ++ [d] = (ds.take (i + 1)).filter f
      rw [show acc = _ from hI, List.take_add_one, hd, List.filter_append]; simp [hf]
    · have hf : f d = false := by rw [← e]; exact z
      show acc = (ds.take (i + 1)).filter f
      rw [show acc = _ from hI, List.take_add_one, hd, List.filter_append]; simp [hf]
  · rw [hI, List.take_length]; exact hp
theorem if_t {A B : Prop} (h : A) : (true = true → A) ∧ (true = false → B) := ⟨fun _ => h, (fun z => Bool.noConfusion z)⟩
theorem if_f {A B : Prop} (h : B) : (false = true → A) ∧ (false = false → B) := ⟨(fun z => Bool.noConfusion z), fun _ => h⟩
theorem if_2 {c : Bool} {A B : Prop} (h1 : c = true → A) (h2 : c = false → B) : (c = true → A) ∧ (c = false → B) := ⟨h1, h2⟩
theorem if_is {c v : Bool} {A B : Prop} (e : c = v) (h : (v = true → A) ∧ (v = false → B)) : (c = true → A) ∧ (c = false → B) := by rw [e]; exact h
end

/-! ### a def -/
abbrev noG : Option Addr → Hp → Prop := fun _ _ => True
abbrev NoS : List Sl → Prop := fun _ => False
def startS (N : List Str) (ds : List D) : List Sl := ds.map Sl.dat ++ List.replicate (N.length - ds.length) Sl.un
theorem startS_rep {K : PySem.W.Frag} {C : Addr} {m : Option Addr} {O : List Addr} {H : Hp} {N : List Str} {ds : List D} {vs : List V} (g : Gd m O H) (r : RpL K C (Er O H) ds vs) (hl : ds.length ≤ N.length) : Rep K C m O H [] H (L2.start N vs) (startS N ds) := by
  refine ⟨?_, fun i s e => ?_, fun i j s t a e1 e2 o1 o2 => ?_, g.dom, g.mo, g.refl, (fun _ h => nomatch h), (fun _ h => nomatch h)⟩
  · unfold L2.start startS
    rw [List.length_append, List.length_append, List.length_map, List.length_map, List.length_replicate, List.length_replicate, r.length]
  · unfold startS at e
    by_cases hi : i < ds.length
    · rw [List.getElem?_append_left (by rw [List.length_map]; exact hi), List.getElem?_map] at e
      obtain ⟨d, hd, rfl⟩ := Option.map_eq_some_iff.mp e
      obtain ⟨v, hv, rv⟩ := r.get hd
      refine ⟨v, ?_, rv⟩
      unfold L2.start
      rw [List.getElem?_append_left (by rw [List.length_map, ← r.length]; exact hi), List.getElem?_map, hv]; rfl
    · rw [List.getElem?_append_right (by rw [List.length_map]; omega), List.getElem?_replicate] at e
      split at e
      · cases e; trivial
      · cases e
  · exfalso
    unfold startS at e1
    by_cases hi : i < ds.length
    · rw [List.getElem?_append_left (by rw [List.length_map]; exact hi), List.getElem?_map] at e1
      obtain ⟨d, hd, rfl⟩ := Option.map_eq_some_iff.mp e1
      cases o1
    · rw [List.getElem?_append_right (by rw [List.length_map]; omega), List.getElem?_replicate] at e1
      split at e1
      · cases e1; cases o1
      · cases e1
theorem startG_rep {K : PySem.W.Frag} {C : Addr} {a : Addr} {O : List Addr} {H : Hp} {N : List Str} {ds : List D} {vs : List V} (g : Gd (some a) O H) (r : RpL K C (Er O H) ds vs) (hl : ds.length + 1 ≤ N.length) :
    Rep K C (some a) O H [] H (L2.start N (.ref a :: vs)) (.strm :: startS N.tail ds) := by
  have hN : N.tail.length = N.length - 1 := List.length_tail
  have r0 := startS_rep (N := N.tail) g r (by omega)
  have e0 : L2.start N (.ref a :: vs) = some (.ref a) :: L2.start N.tail vs := by
    unfold L2.start
    rw [List.map_cons, List.cons_append, List.length_cons, hN]
    congr 3
    omega
  rw [e0]
  refine ⟨by rw [List.length_cons, List.length_cons, r0.len], fun i s e => ?_, fun i j s t b e1 e2 o1 o2 q1 q2 => ?_, g.dom, g.mo, g.refl, (fun _ h => nomatch h), (fun _ h => nomatch h)⟩
  · cases i with
    | zero => cases e; exact ⟨a, rfl, rfl⟩
    | succ i => exact r0.sl i s e
  · cases i with
    | zero => cases e1; cases o1
    | succ i =>
      cases j with
      | zero => cases e2; cases o2
      | succ j => exact congrArg (· + 1) (r0.uniq i j s t b e1 e2 o1 o2 q1 q2)
section
variable {K : PySem.W.Frag} {C CB : Addr} {N : List Str} {t : TS} {vs : List V} {H : Hp} {Q : VK} {E : XK}
theorem body_P {f : Fn} (h : spP K C f vs H Q E) (b : ∀ ds P, f ds P → ds.length ≤ N.length ∧ WS ⟨K, C, noG⟩ t (startS N ds) P (fun _ => P .non) NoS NoS) : t { nx := fun _ H' => Q .non H', rt := Q } (L2.start N vs) H := by
  obtain ⟨O, ds, P, hO, r, hf, q⟩ := h
  obtain ⟨hl, b⟩ := b ds P hf
  have g : Gd none O H := ⟨hO, (fun a e => nomatch e), (fun a e => nomatch e)⟩
  have ex : ∀ H', Stp none H H' → Ex H H' := fun H' s b o e => s.keep b o (by intro z; cases z) e
  refine b none O H [] _ H trivial (startS_rep g r hl) _ (fun v H' d s rv p => q v H' d (ex H' s) rv p) (fun A' σ' H' τ' tr R p => q .non H' .non (ex H' R.st) rfl p) (fun _ _ _ _ _ _ z => z) (fun _ _ _ _ _ _ z => z)
theorem body_G {f : Fn} (h : spG K C f vs H Q E) (b : ∀ ds P, f ds P → ds.length + 1 ≤ N.length ∧ WS ⟨K, C, noG⟩ t (.strm :: startS N.tail ds) P (fun _ => P .non) NoS NoS) : t { nx := fun _ H' => Q .non H', rt := Q } (L2.start N vs) H := by
  obtain ⟨a, us, O, ds, P, ev, g, r, hf, q⟩ := h
  obtain ⟨hl, b⟩ := b ds P hf
  subst ev
  refine b (some a) O H [] _ H trivial (startG_rep g r hl) _ (fun v H' d s rv p => q v H' d s rv p) (fun A' σ' H' τ' tr R p => q .non H' .non R.st rfl p) (fun _ _ _ _ _ _ z => z) (fun _ _ _ _ _ _ z => z)
/-- PE: what allows a raise -/
abbrev GX (CB : Addr) (E : XK) (PE : Prop) : Option Addr → Hp → Prop := fun m H0 => PE → ∀ H', Stp m H0 H' → E (.ref CB) none H'
theorem body_X {f : FnX} (h : spX K C CB f vs H Q E) (b : ∀ ds P PE, f ds P PE → ds.length ≤ N.length ∧ WS ⟨K, C, GX CB E PE⟩ t (startS N ds) P (fun _ => P .non) NoS NoS) : t { nx := fun _ H' => Q .non H', rt := Q } (L2.start N vs) H := by
  obtain ⟨O, ds, P, PE, hO, r, hf, q, qe⟩ := h
  obtain ⟨hl, b⟩ := b ds P PE hf
  have g : Gd none O H := ⟨hO, (fun a e => nomatch e), (fun a e => nomatch e)⟩
  have ex : ∀ H', Stp none H H' → Ex H H' := fun H' s b o e => s.keep b o (by intro z; cases z) e
  refine b none O H [] _ H (fun z H' s => qe z H' (ex H' s)) (startS_rep g r hl) _ (fun v H' d s rv p => q v H' d (ex H' s) rv p) (fun A' σ' H' τ' tr R p => q .non H' .non (ex H' R.st) rfl p) (fun _ _ _ _ _ _ z => z) (fun _ _ _ _ _ _ z => z)
theorem len_P {f : Fn} {n : Nat} (hf : ∀ ds P, f ds P → ds.length = n) : spP K C f vs H Q E → vs.length = n := fun ⟨O, ds, P, _, r, h, _⟩ => by rw [← r.length]; exact hf ds P h
theorem len_G {f : Fn} {n : Nat} (hf : ∀ ds P, f ds P → ds.length = n) : spG K C f vs H Q E → vs.length = n + 1 := fun ⟨a, us, O, ds, P, e, _, r, h, _⟩ => by rw [e, List.length_cons, ← r.length, hf ds P h]
theorem len_X {f : FnX} {n : Nat} (hf : ∀ ds P PE, f ds P PE → ds.length = n) : spX K C CB f vs H Q E → vs.length = n := fun ⟨O, ds, P, PE, _, r, h, _⟩ => by rw [← r.length]; exact hf ds P PE h
end
end K15
/-! operations on data: by named readings. -/
namespace K15
open PySem PySem.Spec PyProof.Rows L2
open Evl (Ex ex_rd ex_l ex_t)
set_option autoImplicit false
theorem dS {a b : Str} : decide (V.str a = V.str b) = decide (a = b) := by simp
theorem dI {a b : Int} : decide (V.int a = V.int b) = decide (a = b) := by simp
def D.isN : D → Bool
  | .non => true
  | _ => false
theorem rp_non {K : PySem.W.Frag} {C : Addr} {H : Hp} {d : D} {v : V} (h : Rp K C H d v) : decide (v = .non) = d.isN := by
  cases d with
  | non => rw [show v = .non from h]; rfl
  | bl b => rw [show v = .bl b from h]; rfl
  | int b => rw [show v = .int b from h]; rfl
  | str b => rw [show v = .str b from h]; rfl
  | lst ds => obtain ⟨a, xs, e, _⟩ := h; rw [e]; rfl
  | tup ds => obtain ⟨a, xs, e, _⟩ := h; rw [e]; rfl
  | dct ks ds => obtain ⟨a, xs, e, _⟩ := h; rw [e]; rfl
  | ltr a n s e b => obtain ⟨p, _, _, _, _, _, _, e, _⟩ := h; rw [e]; rfl
  | scr ns => obtain ⟨a, e, _⟩ := h; rw [e]; rfl
def D.eqS (s : Str) : D → Bool
  | .str t => decide (t = s)
  | _ => false
def D.isStr : D → Bool
  | .str _ => true
  | _ => false
/-! ### named readings -/
def rLtS : R2 := fun x y H Q => ∃ i j, x = .str i ∧ y = .str j ∧ Q (.bl (decide (i.cps.toList < j.cps.toList))) H
def rLeS : R2 := fun x y H Q => ∃ i j, x = .str i ∧ y = .str j ∧ Q (.bl (!decide (j.cps.toList < i.cps.toList))) H
def rGtS : R2 := fun x y H Q => ∃ i j, x = .str i ∧ y = .str j ∧ Q (.bl (decide (j.cps.toList < i.cps.toList))) H
def rLenV (K : PySem.W.Frag) : List V → Hp → VK → Prop := fun xs H Q => ∃ x n, xs = [x] ∧ LenV K x H n ∧ Q (.int (n : Nat)) H
def rOrd : List V → Hp → VK → Prop := fun xs H Q => ∃ x, xs = [.str x] ∧ x.length = 1 ∧ Q (.int (x.cps.getD 0 0 : Nat)) H
def rStrI : List V → Hp → VK → Prop := fun xs H Q => ∃ i : Int, xs = [.int i] ∧ i.natAbs.log2 < 1920 ∧ Q (.str (toString i)) H
def rInt1 : List V → Hp → VK → Prop := fun xs H Q => (∃ i, xs = [.int i] ∧ Q (.int i) H) ∨ ∃ k : Bool, xs = [.bl k] ∧ Q (.int (if k then 1 else 0)) H
def rIntS : List V → Hp → VK → Prop := fun xs H Q => ∃ a n, xs = [.str a] ∧ PySem.intText? a = some n ∧ a.length ≤ 640 ∧ Q (.int n) H
def rMin2 : List V → Hp → VK → Prop := fun xs H Q => ∃ i j, xs = [.int i, .int j] ∧ Q (.int (if j < i then j else i)) H
def rMax2 : List V → Hp → VK → Prop := fun xs H Q => ∃ i j, xs = [.int i, .int j] ∧ Q (.int (if j > i then j else i)) H
def rListO (K : PySem.W.Frag) : List V → Hp → VK → Prop := fun xs H Q => ∃ p ys, xs = [.ref p] ∧ (SqL K H p ys ∨ SqT K H p ys) ∧ ∀ l, H l = none → Q (.ref l) (upd H l (.lst ys))
def rTupO (K : PySem.W.Frag) : List V → Hp → VK → Prop := fun xs H Q => ∃ p ys, xs = [.ref p] ∧ ((SqL K H p ys ∧ ∀ l, H l = none → Q (.ref l) (upd H l (.tup ys))) ∨ (SqT K H p ys ∧ Q (.ref p) H))
def rSplit : V → List V → Hp → VK → Prop := fun x xs H Q => ∃ a b, x = .str a ∧ xs = [.str b] ∧ (b.length == 0) = false ∧ a.length + 2 ≤ sizeLine ∧ rNewStrs (Txt.split a b) H Q
def rPart : V → List V → Hp → VK → Prop := fun x xs H Q => ∃ a b, x = .str a ∧ xs = [.str b] ∧ (b.length == 0) = false ∧ a.length ≤ sizeLine ∧ ∀ p, H p = none → Q (.ref p) (upd H p (.tup [.str (Txt.partition a b).1, .str (Txt.partition a b).2.1, .str (Txt.partition a b).2.2]))
def rJoin (K : PySem.W.Frag) : V → List V → Hp → VK → Prop := fun x xs H Q => ∃ a p, ∃ ys : List Str, x = .str a ∧ xs = [.ref p] ∧ (SqL K H p (ys.map V.str) ∨ SqT K H p (ys.map V.str)) ∧ (ys.map (·.length)).sum + ys.length * a.length ≤ 16777216 ∧ Q (.str (Txt.join a ys)) H
def rCount : V → List V → Hp → VK → Prop := fun x xs H Q => ∃ a b, x = .str a ∧ xs = [.str b] ∧ Q (.int (Txt.count a b)) H
section
variable {X : Cx}
theorem oLtS : OpR X (compareOp .Lt) rLtS := op_lt_str
theorem oLeS : OpR X (compareOp .LtE) rLeS := op_le_str
theorem oGtS : OpR X (compareOp .Gt) rGtS := op_gt_str
theorem oAddS : OpR X (binaryOp .Add) rAddS := op_add_str
theorem oInS : OpR X (compareOp .In) rInS := op_in_sign
theorem oNotInS : OpR X (compareOp .NotIn) rNotInS := op_notIn_sign
theorem cLen : CallR X (.builtin "len") (rLenV X.K) := call_len
theorem cOrd : CallR X (.builtin "ord") rOrd := call_ord
theorem cStrI : CallR X (.type "str") rStrI := call_str_int
theorem cInt1 : CallR X (.type "int") rInt1 := call_int1
theorem cIntS : CallR X (.type "int") rIntS := call_int_str
theorem cMin2 (hc : X.calm = true) : CallR X (.builtin "min") rMin2 := call_min2 hc
theorem cMax2 (hc : X.calm = true) : CallR X (.builtin "max") rMax2 := call_max2 hc
theorem cListO : CallR X (.type "list") (rListO X.K) := call_list_of
theorem cTupO : CallR X (.type "tuple") (rTupO X.K) := call_tuple_of
theorem mSplit : MtR X "str.split" rSplit := mt_split
theorem mPart : MtR X "str.partition" rPart := mt_partition
theorem mJoin : MtR X "str.join" (rJoin X.K) := mt_join
theorem mCount : MtR X "str.count" rCount := mt_count
/-- an expression's truth -/
theorem pt_tru {a : Expr} {ta : TE} (ha : PE X a ta) (he : ∀ whole, isTrue a X.env whole = (do let v ← whole; standAt a.pos; holding [v] (truthy v)) := by intro _; rfl) : PT X a (tTru X.K ta) := pt_truth ha he
end
section
variable {B : Bx} {P : D → Prop} {i j : Int} {a b : Str}
theorem od_int {g : Int → Int → Int} (p : P (.int (g i j))) : OpD B (rI0 fun i j => .int (g i j)) (.int i) (.int j) P := fun m O H v w gd rv rw Q q => ⟨i, j, rv, rw, q _ H (.int (g i j)) gd.refl rfl p⟩
theorem od_cmp {g : Int → Int → Bool} (p : P (.bl (g i j))) : OpD B (rI0 fun i j => .bl (g i j)) (.int i) (.int j) P := fun m O H v w gd rv rw Q q => ⟨i, j, rv, rw, q _ H (.bl (g i j)) gd.refl rfl p⟩
theorem od_intC {C : Int → Int → Prop} {g : Int → Int → Int} (c : C i j) (p : P (.int (g i j))) : OpD B (rI C fun i j => .int (g i j)) (.int i) (.int j) P := fun m O H v w gd rv rw Q q => ⟨i, j, rv, rw, c, q _ H (.int (g i j)) gd.refl rfl p⟩
theorem od_eqS (p : P (.bl (decide (a = b)))) : OpD B rEq (.str a) (.str b) P := fun m O H v w gd rv rw Q q => by
  rw [show v = .str a from rv, show w = .str b from rw]
  exact ⟨rfl, by rw [dS]; exact q _ H (.bl (decide (a = b))) gd.refl rfl p⟩
theorem od_neS (p : P (.bl (!decide (a = b)))) : OpD B rNe (.str a) (.str b) P := fun m O H v w gd rv rw Q q => by
  rw [show v = .str a from rv, show w = .str b from rw]
  exact ⟨rfl, by rw [dS]; exact q _ H (.bl (!decide (a = b))) gd.refl rfl p⟩
theorem od_eqI (p : P (.bl (decide (i = j)))) : OpD B rEq (.int i) (.int j) P := fun m O H v w gd rv rw Q q => by
  rw [show v = .int i from rv, show w = .int j from rw]
  exact ⟨rfl, by rw [dI]; exact q _ H (.bl (decide (i = j))) gd.refl rfl p⟩
theorem od_neI (p : P (.bl (!decide (i = j)))) : OpD B rNe (.int i) (.int j) P := fun m O H v w gd rv rw Q q => by
  rw [show v = .int i from rv, show w = .int j from rw]
  exact ⟨rfl, by rw [dI]; exact q _ H (.bl (!decide (i = j))) gd.refl rfl p⟩
theorem od_neNI (p : P (.bl true)) : OpD B rNe .non (.int j) P := fun m O H v w gd rv rw Q q => by
  rw [show v = .non from rv, show w = .int j from rw]
  exact ⟨rfl, q _ H (.bl true) gd.refl rfl p⟩
theorem od_neNS (p : P (.bl true)) : OpD B rNe .non (.str a) P := fun m O H v w gd rv rw Q q => by
  rw [show v = .non from rv, show w = .str a from rw]
  exact ⟨rfl, q _ H (.bl true) gd.refl rfl p⟩
theorem od_neSN (p : P (.bl true)) : OpD B rNe (.str a) .non P := fun m O H v w gd rv rw Q q => by
  rw [show v = .str a from rv, show w = .non from rw]
  exact ⟨rfl, q _ H (.bl true) gd.refl rfl p⟩
theorem od_neNN (p : P (.bl false)) : OpD B rNe .non .non P := fun m O H v w gd rv rw Q q => by
  rw [show v = .non from rv, show w = .non from rw]
  exact ⟨rfl, q _ H (.bl false) gd.refl rfl p⟩
theorem od_ltS (p : P (.bl (decide (a.cps.toList < b.cps.toList)))) : OpD B rLtS (.str a) (.str b) P := fun m O H v w gd rv rw Q q => ⟨a, b, rv, rw, q _ H (.bl _) gd.refl rfl p⟩
theorem od_leS (p : P (.bl (!decide (b.cps.toList < a.cps.toList)))) : OpD B rLeS (.str a) (.str b) P := fun m O H v w gd rv rw Q q => ⟨a, b, rv, rw, q _ H (.bl _) gd.refl rfl p⟩
theorem od_gtS (p : P (.bl (decide (b.cps.toList < a.cps.toList)))) : OpD B rGtS (.str a) (.str b) P := fun m O H v w gd rv rw Q q => ⟨a, b, rv, rw, q _ H (.bl _) gd.refl rfl p⟩
theorem od_addS (h : a.length + b.length ≤ 10000000) (p : P (.str (a ++ b))) : OpD B rAddS (.str a) (.str b) P := fun m O H v w gd rv rw Q q => ⟨a, b, rv, rw, Nat.le_trans h (by decide), q _ H (.str (a ++ b)) gd.refl rfl p⟩
theorem od_inS {c : Nat} (p : P (.bl (decide (c ∈ b.cps.toList)))) : OpD B rInS (.str ⟨#[c]⟩) (.str b) P := fun m O H v w gd rv rw Q q => ⟨c, b, rv, rw, q _ H (.bl _) gd.refl rfl p⟩
theorem od_notInS {c : Nat} (p : P (.bl (!decide (c ∈ b.cps.toList)))) : OpD B rNotInS (.str ⟨#[c]⟩) (.str b) P := fun m O H v w gd rv rw Q q => ⟨c, b, rv, rw, q _ H (.bl _) gd.refl rfl p⟩
theorem od_isN {x : D} (p : P (.bl x.isN)) : OpD B rIsN x .non P := fun m O H v w gd rv rw Q q => ⟨rw, by rw [rp_non rv]; exact q _ H (.bl x.isN) gd.refl rfl p⟩
theorem od_notN {x : D} (p : P (.bl (!x.isN))) : OpD B rNotN x .non P := fun m O H v w gd rv rw Q q => ⟨rw, by rw [rp_non rv]; exact q _ H (.bl (!x.isN)) gd.refl rfl p⟩
theorem inV_strs {K : PySem.W.Frag} {C : Addr} {H : Hp} : ∀ {ds : List D} {xs : List V}, RpL K C H ds xs → ds.all D.isStr = true → xs.all flatV = true ∧ inV (.str a) xs = ds.any (D.eqS a)
  | [], _, h, _ => by rw [show _ = [] from h]; exact ⟨rfl, rfl⟩
  | d :: ds, _, ⟨v, r, e, h1, h2⟩, f => by
    rw [List.all_cons, Bool.and_eq_true] at f
    obtain ⟨i1, i2⟩ := inV_strs h2 f.2
    cases d with
    | str x =>
      rw [e, show v = .str x from h1]
      refine ⟨by rw [List.all_cons, i1]; rfl, ?_⟩
      show (eqV (.str x) (.str a) || inV (.str a) r) = (decide (x = a) || ds.any (D.eqS a))
      rw [i2]
      show ((x == a) || _) = _
      congr 1
    | _ => cases f.1
theorem od_inT {ds : List D} (f : ds.all D.isStr = true) (p : P (.bl (ds.any (D.eqS a)))) : OpD B (rIn B.K false) (.str a) (.tup ds) P := fun m O H v w gd rv rw Q q => by
  obtain ⟨b, xs, e, hb, hl⟩ := rw
  obtain ⟨i1, i2⟩ := inV_strs (a := a) hl f
  rw [show v = .str a from rv]
  exact ⟨b, xs, e, .inr (.inl (.inl (Er.sub _ _ hb))), rfl, i1, by rw [i2]; exact q _ H (.bl _) gd.refl rfl p⟩
theorem od_inL {ds : List D} (f : ds.all D.isStr = true) (p : P (.bl (ds.any (D.eqS a)))) : OpD B (rIn B.K false) (.str a) (.lst ds) P := fun m O H v w gd rv rw Q q => by
  obtain ⟨b, xs, e, hb, hl⟩ := rw
  obtain ⟨i1, i2⟩ := inV_strs (a := a) hl f
  rw [show v = .str a from rv]
  exact ⟨b, xs, e, .inl (.inl (.inl (Er.sub _ _ hb))), rfl, i1, by rw [i2]; exact q _ H (.bl _) gd.refl rfl p⟩
theorem od_niT {ds : List D} (f : ds.all D.isStr = true) (p : P (.bl (!ds.any (D.eqS a)))) : OpD B (rIn B.K true) (.str a) (.tup ds) P := fun m O H v w gd rv rw Q q => by
  obtain ⟨b, xs, e, hb, hl⟩ := rw
  obtain ⟨i1, i2⟩ := inV_strs (a := a) hl f
  rw [show v = .str a from rv]
  exact ⟨b, xs, e, .inr (.inl (.inl (Er.sub _ _ hb))), rfl, i1, by rw [i2]; exact q _ H (.bl _) gd.refl rfl p⟩
theorem od_niL {ds : List D} (f : ds.all D.isStr = true) (p : P (.bl (!ds.any (D.eqS a)))) : OpD B (rIn B.K true) (.str a) (.lst ds) P := fun m O H v w gd rv rw Q q => by
  obtain ⟨b, xs, e, hb, hl⟩ := rw
  obtain ⟨i1, i2⟩ := inV_strs (a := a) hl f
  rw [show v = .str a from rv]
  exact ⟨b, xs, e, .inl (.inl (.inl (Er.sub _ _ hb))), rfl, i1, by rw [i2]; exact q _ H (.bl _) gd.refl rfl p⟩
theorem atI_rp {K : PySem.W.Frag} {C : Addr} {H : Hp} {ds : List D} {xs : List V} {d : D} (h : RpL K C H ds xs) (e : atI ds i = some d) : ∃ v, atI xs i = some v ∧ Rp K C H d v := by
  unfold atI at e ⊢
  rw [← h.length]
  cases q : ixN ds.length i with
  | none => rw [q] at e; cases e
  | some n => rw [q] at e; exact h.get e
theorem od_ixT {ds : List D} {d : D} (e : atI ds i = some d) (p : P d) : OpD B (rIxT B.K) (.tup ds) (.int i) P := fun m O H v w gd rv rw Q q => by
  obtain ⟨b, xs, ev, hb, hl⟩ := rv
  obtain ⟨u, e1, r⟩ := atI_rp hl e
  exact ⟨b, xs, i, u, ev, rw, .inl (.inl (Er.sub _ _ hb)), e1, q u H d gd.refl r p⟩
theorem od_ixL {ds : List D} {d : D} (e : atI ds i = some d) (p : P d) : OpD B (rIxL B.K) (.lst ds) (.int i) P := fun m O H v w gd rv rw Q q => by
  obtain ⟨b, xs, ev, hb, hl⟩ := rv
  obtain ⟨u, e1, r⟩ := atI_rp hl e
  exact ⟨b, xs, i, u, ev, rw, .inl (.inl (Er.sub _ _ hb)), e1, q u H d gd.refl r p⟩
theorem od_ixScr {ns : List Int} {n : Int} (e : atI (ns.map V.int) i = some (.int n)) (p : P (.int n)) : OpD B (rIxL B.K) (.scr ns) (.int i) P := fun m O H v w gd rv rw Q q => by
  obtain ⟨b, ev, hb⟩ := rv
  exact ⟨b, _, i, _, ev, rw, ex_l Er.sub hb, e, q _ H (.int n) gd.refl rfl p⟩
theorem od_ixS {c : Nat} (h : a.length ≤ 100000) (e : atI a.cps.toList i = some c) (p : P (.str ⟨#[c]⟩)) : OpD B rIxS (.str a) (.int i) P := fun m O H v w gd rv rw Q q => ⟨a, i, c, rv, rw, Evl.sz_of h, e, q _ H (.str ⟨#[c]⟩) gd.refl rfl p⟩
theorem od_cat {ds es : List D} (h : ds.length + es.length ≤ 100000) (p : P (.lst (ds ++ es))) : OpD B rCat (.lst ds) (.lst es) P := fun m O H v w gd rv rw Q q => by
  obtain ⟨b, xs, ev, hb, hl⟩ := rv
  obtain ⟨c, ys, ew, hc, hk⟩ := rw
  refine ⟨b, c, xs, ys, ev, ew, Er.sub _ _ hb, Er.sub _ _ hc, by rw [← hl.length, ← hk.length]; exact Evl.sz_of h, fun t ht => q _ _ (.lst (ds ++ es)) (gd.upd ht) ⟨t, _, rfl, gd.at ht, RpL.mono (gd.er (gd.upd ht)) _ _ (hl.append hk)⟩ p⟩
theorem rpl_rep {K : PySem.W.Frag} {C : Addr} {H : Hp} {ds : List D} {xs : List V} (h : RpL K C H ds xs) : ∀ k : Nat, RpL K C H (List.replicate k ds).flatten (List.replicate k xs).flatten
  | 0 => rfl
  | k + 1 => by rw [List.replicate_succ, List.replicate_succ, List.flatten_cons, List.flatten_cons]; exact h.append (rpl_rep h k)
theorem od_rep {ds : List D} (h1 : -(2 ^ 63) ≤ i) (h2 : i < 2 ^ 63) (h : ds.length * i.toNat ≤ 100000) (p : P (.lst (List.replicate i.toNat ds).flatten)) : OpD B rRep (.lst ds) (.int i) P := fun m O H v w gd rv rw Q q => by
  obtain ⟨b, xs, ev, hb, hl⟩ := rv
  refine ⟨b, i, xs, ev, rw, Er.sub _ _ hb, h1, h2, by rw [← hl.length]; exact Evl.sz_of h, fun t ht => q _ _ (.lst _) (gd.upd ht) ⟨t, _, rfl, gd.at ht, RpL.mono (gd.er (gd.upd ht)) _ _ (rpl_rep hl _)⟩ p⟩
/-! ### deep equality -/
mutual
def D.py : D → PyData
  | .non => .none
  | .bl b => .bool b
  | .int i => .int i
  | .str x => .str x
  | .lst ds => .list (D.pyL ds)
  | .tup ds => .tuple (D.pyL ds)
  | .dct _ _ => .none
  | .ltr _ _ _ _ _ => .none
  | .scr _ => .none
def D.pyL : List D → List PyData
  | [] => []
  | d :: ds => D.py d :: D.pyL ds
end
mutual
/-- of None, bools, ints, texts, lists, tuples at any depth -/
def D.ord : D → Bool
  | .dct _ _ => false
  | .ltr _ _ _ _ _ => false
  | .scr _ => false
  | .lst ds => D.ordL ds
  | .tup ds => D.ordL ds
  | _ => true
def D.ordL : List D → Bool
  | [] => true
  | d :: ds => D.ord d && D.ordL ds
end
section
variable {K : PySem.W.Frag} {C : Addr} {H H' : Hp}
mutual
theorem dp_of (e : Ex H H') : ∀ (d : D) (v : V), d.ord = true → Rp K C H d v → Dp K H' v d.py
  | .non, v, _, h => by rw [show v = .non from h]; exact .non
  | .bl b, v, _, h => by rw [show v = .bl b from h]; exact .bl b
  | .int b, v, _, h => by rw [show v = .int b from h]; exact .int b
  | .str b, v, _, h => by rw [show v = .str b from h]; exact .str b
  | .lst ds, v, o, ⟨a, xs, ev, ha, hl⟩ => by rw [ev]; exact .lst (.inl (.inl (e _ _ ha))) (dp_ofL e ds xs o hl)
  | .tup ds, v, o, ⟨a, xs, ev, ha, hl⟩ => by rw [ev]; exact .tup (.inl (.inl (e _ _ ha))) (dp_ofL e ds xs o hl)
  | .dct _ _, _, o, _ => by cases o
  | .ltr _ _ _ _ _, _, o, _ => by cases o
  | .scr _, _, o, _ => by cases o
theorem dp_ofL (e : Ex H H') : ∀ (ds : List D) (vs : List V), D.ordL ds = true → RpL K C H ds vs → DpAll K H' vs (D.pyL ds)
  | [], vs, _, h => by rw [show vs = [] from h]; exact .nil
  | d :: ds, vs, o, ⟨v, r, ev, h1, h2⟩ => by
    have o : (d.ord && D.ordL ds) = true := o
    rw [Bool.and_eq_true] at o
    rw [ev]; exact .cons (dp_of e d v o.1 h1) (dp_ofL e ds r o.2 h2)
end
end
/-- a row of data that == of the library takes -/
def D.shp (d : D) : Prop := d.ord = true ∧ SeqAt.shaped d.py = true
theorem od_eqD {x y : D} (hx : x.shp) (hy : y.shp) (p : P (.bl (PyData.eqv x.py y.py))) : OpD B (rEqD B.K) x y P := fun m O H v w gd rv rw Q q =>
  ⟨x.py, y.py, dp_of Er.sub _ _ hx.1 rv, dp_of Er.sub _ _ hy.1 rw, hx.2, hy.2, q _ H (.bl _) gd.refl rfl p⟩
theorem od_neD {x y : D} (hx : x.shp) (hy : y.shp) (p : P (.bl (!PyData.eqv x.py y.py))) : OpD B (rNeD B.K) x y P := fun m O H v w gd rv rw Q q =>
  ⟨x.py, y.py, dp_of Er.sub _ _ hx.1 rv, dp_of Er.sub _ _ hy.1 rw, hx.2, hy.2, q _ H (.bl _) gd.refl rfl p⟩
/-! ### calls -/
theorem one {K : PySem.W.Frag} {C : Addr} {H : Hp} {d : D} {vs : List V} (h : RpL K C H [d] vs) : ∃ v, vs = [v] ∧ Rp K C H d v := by
  obtain ⟨v, r, e, h1, h2⟩ := h
  exact ⟨v, by rw [e, show r = [] from h2], h1⟩
theorem two {K : PySem.W.Frag} {C : Addr} {H : Hp} {d e : D} {vs : List V} (h : RpL K C H [d, e] vs) : ∃ v w, vs = [v, w] ∧ Rp K C H d v ∧ Rp K C H e w := by
  obtain ⟨v, r, e1, h1, w, r', e2, h2, h3⟩ := h
  exact ⟨v, w, by rw [e1, e2, show r' = [] from h3], h1, h2⟩
theorem cd_lenS (h : a.length ≤ 100000) (p : P (.int (a.length : Nat))) : CallD B (rLenV B.K) [.str a] P := fun m O H vs gd r Q q => by
  obtain ⟨v, e, r⟩ := one r
  rw [e, show v = .str a from r]
  exact ⟨_, a.length, rfl, ⟨Evl.sz_of h, rfl⟩, q _ H (.int (a.length : Nat)) gd.refl rfl p⟩
theorem cd_lenL {ds : List D} (p : P (.int (ds.length : Nat))) : CallD B (rLenV B.K) [.lst ds] P := fun m O H vs gd r Q q => by
  obtain ⟨v, e, b, xs, ev, hb, hl⟩ := one r
  rw [e, ev]
  exact ⟨_, ds.length, rfl, .inl ⟨xs, .inl (.inl (Er.sub _ _ hb)), hl.length⟩, q _ H (.int _) gd.refl rfl p⟩
theorem cd_lenT {ds : List D} (p : P (.int (ds.length : Nat))) : CallD B (rLenV B.K) [.tup ds] P := fun m O H vs gd r Q q => by
  obtain ⟨v, e, b, xs, ev, hb, hl⟩ := one r
  rw [e, ev]
  exact ⟨_, ds.length, rfl, .inr ⟨xs, .inl (.inl (Er.sub _ _ hb)), hl.length⟩, q _ H (.int _) gd.refl rfl p⟩
theorem cd_lenScr {ns : List Int} (p : P (.int (ns.length : Nat))) : CallD B (rLenV B.K) [.scr ns] P := fun m O H vs gd r Q q => by
  obtain ⟨v, e, b, ev, hb⟩ := one r
  rw [e, ev]
  exact ⟨_, ns.length, rfl, .inl ⟨_, ex_l Er.sub hb, by rw [List.length_map]⟩, q _ H (.int _) gd.refl rfl p⟩
theorem cd_ord {c : Nat} (p : P (.int (c : Nat))) : CallD B rOrd [.str ⟨#[c]⟩] P := fun m O H vs gd r Q q => by
  obtain ⟨v, e, r⟩ := one r
  exact ⟨⟨#[c]⟩, by rw [e, show v = _ from r], rfl, q _ H (.int (c : Nat)) gd.refl rfl p⟩
theorem cd_strI (h : i.natAbs.log2 < 1920) (p : P (.str (toString i))) : CallD B rStrI [.int i] P := fun m O H vs gd r Q q => by
  obtain ⟨v, e, r⟩ := one r
  exact ⟨i, by rw [e, show v = _ from r], h, q _ H (.str (toString i)) gd.refl rfl p⟩
theorem cd_int1 (p : P (.int i)) : CallD B rInt1 [.int i] P := fun m O H vs gd r Q q => by
  obtain ⟨v, e, r⟩ := one r
  exact .inl ⟨i, by rw [e, show v = _ from r], q _ H (.int i) gd.refl rfl p⟩
theorem cd_intS (h : PySem.intText? a = some i) (h2 : a.length ≤ 640) (p : P (.int i)) : CallD B rIntS [.str a] P := fun m O H vs gd r Q q => by
  obtain ⟨v, e, r⟩ := one r
  exact ⟨a, i, by rw [e, show v = _ from r], h, h2, q _ H (.int i) gd.refl rfl p⟩
theorem cd_min2 (p : P (.int (if j < i then j else i))) : CallD B rMin2 [.int i, .int j] P := fun m O H vs gd r Q q => by
  obtain ⟨v, w, e, r1, r2⟩ := two r
  exact ⟨i, j, by rw [e, show v = _ from r1, show w = _ from r2], q _ H (.int _) gd.refl rfl p⟩
theorem cd_max2 (p : P (.int (if j > i then j else i))) : CallD B rMax2 [.int i, .int j] P := fun m O H vs gd r Q q => by
  obtain ⟨v, w, e, r1, r2⟩ := two r
  exact ⟨i, j, by rw [e, show v = _ from r1, show w = _ from r2], q _ H (.int _) gd.refl rfl p⟩
theorem cd_list {ds : List D} (p : P (.lst ds)) : CallD B (rListO B.K) [.lst ds] P := fun m O H vs gd r Q q => by
  obtain ⟨v, e, b, xs, ev, hb, hl⟩ := one r
  refine ⟨b, xs, by rw [e, ev], .inl (.inl (.inl (Er.sub _ _ hb))), fun t ht => q _ _ (.lst ds) (gd.upd ht) ⟨t, xs, rfl, gd.at ht, RpL.mono (gd.er (gd.upd ht)) _ _ hl⟩ p⟩
theorem cd_tup {ds : List D} (p : P (.tup ds)) : CallD B (rTupO B.K) [.lst ds] P := fun m O H vs gd r Q q => by
  obtain ⟨v, e, b, xs, ev, hb, hl⟩ := one r
  refine ⟨b, xs, by rw [e, ev], .inl ⟨.inl (.inl (Er.sub _ _ hb)), fun t ht => q _ _ (.tup ds) (gd.upd ht) ⟨t, xs, rfl, gd.at ht, RpL.mono (gd.er (gd.upd ht)) _ _ hl⟩ p⟩⟩
/-! ### texts' methods -/
theorem md_split (hb : (b.length == 0) = false) (h : a.length ≤ 90000) (p : P (.lst ((Txt.split a b).map .str))) : MtD B rSplit (.str a) [.str b] P := fun m O H v vs gd rv r Q q => by
  obtain ⟨w, e, r⟩ := one r
  refine ⟨a, b, rv, by rw [e, show w = _ from r], hb, Evl.sz_of (by omega), fun t ht => q _ _ (.lst _) (gd.upd ht) ⟨t, _, rfl, gd.at ht, RpL.strs _⟩ p⟩
theorem md_part (hb : (b.length == 0) = false) (h : a.length ≤ 100000) (p : P (.tup [.str (Txt.partition a b).1, .str (Txt.partition a b).2.1, .str (Txt.partition a b).2.2])) : MtD B rPart (.str a) [.str b] P := fun m O H v vs gd rv r Q q => by
  obtain ⟨w, e, r⟩ := one r
  refine ⟨a, b, rv, by rw [e, show w = _ from r], hb, Evl.sz_of h, fun t ht => q _ _ (.tup [.str (Txt.partition a b).1, .str (Txt.partition a b).2.1, .str (Txt.partition a b).2.2]) (gd.upd ht) ⟨t, _, rfl, gd.at ht, _, _, rfl, rfl, _, _, rfl, rfl, _, _, rfl, rfl, rfl⟩ p⟩
theorem md_joinL {ss : List Str} (h : (ss.map (·.length)).sum + ss.length * a.length ≤ 16777216) (p : P (.str (Txt.join a ss))) : MtD B (rJoin B.K) (.str a) [.lst (ss.map .str)] P := fun m O H v vs gd rv r Q q => by
  obtain ⟨w, e, b, xs, ev, hb, hl⟩ := one r
  exact ⟨a, b, ss, rv, by rw [e, ev], .inl (.inl (.inl (by rw [← hl.strs_eq]; exact Er.sub _ _ hb))), h, q _ H (.str _) gd.refl rfl p⟩
theorem md_joinT {ss : List Str} (h : (ss.map (·.length)).sum + ss.length * a.length ≤ 16777216) (p : P (.str (Txt.join a ss))) : MtD B (rJoin B.K) (.str a) [.tup (ss.map .str)] P := fun m O H v vs gd rv r Q q => by
  obtain ⟨w, e, b, xs, ev, hb, hl⟩ := one r
  exact ⟨a, b, ss, rv, by rw [e, ev], .inr (.inl (.inl (by rw [← hl.strs_eq]; exact Er.sub _ _ hb))), h, q _ H (.str _) gd.refl rfl p⟩
theorem md_count (p : P (.int (Txt.count a b))) : MtD B rCount (.str a) [.str b] P := fun m O H v vs gd rv r Q q => by
  obtain ⟨w, e, r⟩ := one r
  exact ⟨a, b, rv, by rw [e, show w = _ from r], q _ H (.int _) gd.refl rfl p⟩
end
theorem slen_app (x y : Str) : (x ++ y).length = x.length + y.length := by rw [TL.len_tl, TL.tl_append, List.length_append, ← TL.len_tl, ← TL.len_tl]
theorem slen_one (c : Nat) : (⟨#[c]⟩ : Str).length = 1 := rfl
/-! ### isinstance, truth, += -/
def D.isInt : D → Bool
  | .int _ => true
  | .bl _ => true
  | _ => false
def D.isBl : D → Bool
  | .bl _ => true
  | _ => false
def D.isTup : D → Bool
  | .tup _ => true
  | _ => false
def D.pl : D → Bool
  | .dct _ _ => false
  | .ltr _ _ _ _ _ => false
  | .scr _ => false
  | _ => true
/-- T: the type's name, i: what is of it -/
structure IsaT (T : String) (i : D → Bool) : Prop where
  n : kitB "NoneType" T = some (i .non)
  s : ∀ x, kitB "str" T = some (i (.str x))
  t : ∀ x, kitB "int" T = some (i (.int x))
  b : ∀ x, kitB "bool" T = some (i (.bl x))
  u : ∀ x, kitB "tuple" T = some (i (.tup x))
  l : ∀ x, kitB "list" T = some (i (.lst x))
theorem isaT_str : IsaT "str" D.isStr := ⟨by decide +kernel, fun _ => (by decide +kernel : kitB "str" "str" = some true), fun _ => (by decide +kernel : kitB "int" "str" = some false), fun _ => (by decide +kernel : kitB "bool" "str" = some false), fun _ => (by decide +kernel : kitB "tuple" "str" = some false), fun _ => (by decide +kernel : kitB "list" "str" = some false)⟩
theorem isaT_int : IsaT "int" D.isInt := ⟨by decide +kernel, fun _ => (by decide +kernel : kitB "str" "int" = some false), fun _ => (by decide +kernel : kitB "int" "int" = some true), fun _ => (by decide +kernel : kitB "bool" "int" = some true), fun _ => (by decide +kernel : kitB "tuple" "int" = some false), fun _ => (by decide +kernel : kitB "list" "int" = some false)⟩
theorem isaT_bool : IsaT "bool" D.isBl := ⟨by decide +kernel, fun _ => (by decide +kernel : kitB "str" "bool" = some false), fun _ => (by decide +kernel : kitB "int" "bool" = some false), fun _ => (by decide +kernel : kitB "bool" "bool" = some true), fun _ => (by decide +kernel : kitB "tuple" "bool" = some false), fun _ => (by decide +kernel : kitB "list" "bool" = some false)⟩
theorem isaT_tuple : IsaT "tuple" D.isTup := ⟨by decide +kernel, fun _ => (by decide +kernel : kitB "str" "tuple" = some false), fun _ => (by decide +kernel : kitB "int" "tuple" = some false), fun _ => (by decide +kernel : kitB "bool" "tuple" = some false), fun _ => (by decide +kernel : kitB "tuple" "tuple" = some true), fun _ => (by decide +kernel : kitB "list" "tuple" = some false)⟩
section
variable {B : Bx} {τ : List Sl} {P : D → Prop} {te : TE} {T : String}
theorem wp_isi {isa : D → Bool} (hT : IsaT T isa) (h : WP B te τ fun d => d.pl = true ∧ P (.bl (isa d))) : WP B (tCB (rIsi B.K) (tCons te (tCons (tC (.ty T)) tNil))) τ P := fun m O0 H0 A σ H hG R Q q => by
  refine h m O0 H0 A σ H hG R _ fun v H1 d s1 r1 h1 => ?_
  obtain ⟨hp, p⟩ := h1
  obtain ⟨t0, t1, t2, t3, t4, t5⟩ := hT
  have fin := q (.bl (isa d)) H1 (.bl (isa d)) s1 rfl p
  cases d with
  | non => rw [show v = .non from r1]; exact ⟨_, _, _, _, _, rfl, .ty T, .base .non, kit_ty t0, fin⟩
  | bl b => rw [show v = .bl b from r1]; exact ⟨_, _, _, _, _, rfl, .ty T, .base (.bl b), kit_ty (t3 _), fin⟩
  | int b => rw [show v = .int b from r1]; exact ⟨_, _, _, _, _, rfl, .ty T, .base (.int b), kit_ty (t2 _), fin⟩
  | str b => rw [show v = .str b from r1]; exact ⟨_, _, _, _, _, rfl, .ty T, .base (.str b), kit_ty (t1 _), fin⟩
  | lst ds => obtain ⟨a, xs, e, ha, _⟩ := r1; rw [e]; exact ⟨_, _, _, _, _, rfl, .ty T, .base (.lst (Er.sub _ _ ha)), kit_ty (t5 _), fin⟩
  | tup ds => obtain ⟨a, xs, e, ha, _⟩ := r1; rw [e]; exact ⟨_, _, _, _, _, rfl, .ty T, .base (.tup (Er.sub _ _ ha)), kit_ty (t4 _), fin⟩
  | dct ks ds => cases hp
  | ltr a n s e b => cases hp
  | scr ns => cases hp
theorem wp_isiS (h : WP B te τ fun d => d.pl = true ∧ P (.bl d.isStr)) : WP B (tCB (rIsi B.K) (tCons te (tCons (tC (.ty "str")) tNil))) τ P := wp_isi isaT_str h
theorem wp_isiI (h : WP B te τ fun d => d.pl = true ∧ P (.bl d.isInt)) : WP B (tCB (rIsi B.K) (tCons te (tCons (tC (.ty "int")) tNil))) τ P := wp_isi isaT_int h
theorem wp_isiB (h : WP B te τ fun d => d.pl = true ∧ P (.bl d.isBl)) : WP B (tCB (rIsi B.K) (tCons te (tCons (tC (.ty "bool")) tNil))) τ P := wp_isi isaT_bool h
theorem wp_isiT (h : WP B te τ fun d => d.pl = true ∧ P (.bl d.isTup)) : WP B (tCB (rIsi B.K) (tCons te (tCons (tC (.ty "tuple")) tNil))) τ P := wp_isi isaT_tuple h
theorem wp_un {g : Int → Int} (h : WP B te τ fun d => ∃ i, d = .int i ∧ P (.int (g i))) : WP B (tUn (rU fun i => .int (g i)) te) τ P := fun m O0 H0 A σ H hG R Q q => by
  refine h m O0 H0 A σ H hG R _ fun v H1 d s1 r1 h1 => ?_
  obtain ⟨i, e, p⟩ := h1
  subst e
  exact ⟨i, r1, q _ H1 (.int (g i)) s1 rfl p⟩
theorem wt_truS {P : Bool → Prop} (h : WP B te τ fun d => ∃ a : Str, d = .str a ∧ a.length ≤ 100000 ∧ P ((a.length : Int) != 0)) : WT B (tTru B.K te) τ P := fun m O0 H0 A σ H hG R Q q => by
  refine h m O0 H0 A σ H hG R _ fun v H1 d s1 r1 h1 => ?_
  obtain ⟨a, e, hl, p⟩ := h1
  subst e
  rw [show v = .str a from r1]
  exact ⟨_, ⟨Evl.sz_of hl, rfl⟩, q _ H1 s1 p⟩
theorem wt_truL {P : Bool → Prop} (h : WP B te τ fun d => ∃ ds : List D, d = .lst ds ∧ P (!ds.isEmpty)) : WT B (tTru B.K te) τ P := fun m O0 H0 A σ H hG R Q q => by
  refine h m O0 H0 A σ H hG R _ fun v H1 d s1 r1 h1 => ?_
  obtain ⟨ds, e, p⟩ := h1
  subst e
  obtain ⟨a, xs, ev, ha, hl⟩ := r1
  rw [ev]
  refine ⟨_, .inl ⟨xs, .inl (.inl (Er.sub _ _ ha)), ?_⟩, q _ H1 s1 p⟩
  cases ds with
  | nil => rw [show xs = [] from hl]; rfl
  | cons d r => obtain ⟨v, r', e, _⟩ := hl; rw [e]; rfl
theorem ws_aug {i : Nat} {f : Int → Int → Int} {n : Int} {Rt : D → Prop} {N Bk Ct : List Sl → Prop} (hi : τ[i]? = some (.dat (.int n))) (h : WP B te τ fun d => ∃ k : Int, d = .int k ∧ N (τ.set i (.dat (.int (f n k))))) : WS B (tAug i te (ipI f)) τ Rt N Bk Ct := fun m O0 H0 A σ H hG R Dd rt nx bk ct => by
  obtain ⟨v, e, rv⟩ := R.sl i _ hi
  refine ⟨v, e, h m O0 H0 A σ H hG R _ fun w H1 d s1 r1 h1 => ?_⟩
  obtain ⟨k, ed, p⟩ := h1
  subst ed
  have hl : i < τ.length := (List.getElem?_eq_some_iff.mp hi).1
  exact ⟨n, k, rv, r1, nx A _ H1 _ (.of s1) ((R.step s1).set (d := .int (f n k)) (v := .int (f n k)) rfl hl) p⟩
end
end K15
/-! the text: each def by its place; what the top leaves (Txt); a def's promise as its callers use it (CallOk). -/
namespace K15
open PySem PySem.Spec PyProof.Rows L2
set_option autoImplicit false
def topS (i : Nat) : Stmt := PySem.Challenge.pw_lettersonce_k15_whole_spoilt_mail.main.body.getD i (.Pass ⟨0, 0, 0, 0⟩)
structure DefIn (K : PySem.W.Frag) (mg : Str → Option Value) (x : Str) (st : Stmt) (ps : List Str) : Prop where
  ex : ∃ f fd, Fun K x x st f fd ∧ mg x = some (.ref f) ∧ Binds K fd ps []
def CallOk (P : Program) (w : World) (K : PySem.W.Frag) (mg : Str → Option Value) (base : Heap) (CX : CXT) (k : Nat) (x : Str) (ps : List Str) (sp : Sp) : Prop :=
  ∃ f fd, FnOk P w K mg base CX k f fd ps sp ∧ mg x = some (.ref f) ∧ PySem.W.keepIn K (.ref f) = true ∧ Binds K fd ps []
section
variable {P : Program} {w : World} {K : PySem.W.Frag} {mg : Str → Option Value} {base : Heap} {x : Str} {st : Stmt} {N ps : List Str} {k : Nat} {sp : Sp}
theorem DefIn.ok (D : DefIn K mg x st ps) (S : FnScope N ps (defScope st)) (len : ∀ vs H Q E, sp vs H Q E → vs.length = ps.length)
    (hbody : ∀ (f : Addr) (cdv : Value) (A : Around) (outer : List Env) (s : Shared) (H : Hp) (vs : List V) (Q : VK) (E : XK), Room k (A.deeper (envOfC x (defScope st) s.heap.objs.size f cdv)) → sp vs H Q E →
      ∃ t, PSs (cxOf CX0 P w K mg base N x (defScope st) f cdv A outer s H E).nox (defBody st) t ∧ t { nx := fun _ H' => Q .non H', rt := Q } (start N vs) H) : CallOk P w K mg base CX0 (k + 1) x ps sp := by
  obtain ⟨f, fd, F, g, b⟩ := D.ex
  exact ⟨f, fd, F.ok S len (hbody f), g, F.kp, b⟩
theorem DefIn.okX (D : DefIn K mg x st ps) (S : FnScope N ps (defScope st)) (len : ∀ vs H Q E, sp vs H Q E → vs.length = ps.length)
    (hbody : ∀ (f : Addr) (cdv : Value) (A : Around) (outer : List Env) (s : Shared) (H : Hp) (vs : List V) (Q : VK) (E : XK), Room k (A.deeper (envOfC x (defScope st) s.heap.objs.size f cdv)) → sp vs H Q E →
      ∃ t, PSs (cxOf (L2.CX P w) P w K mg base N x (defScope st) f cdv A outer s H E) (defBody st) t ∧ t { nx := fun _ H' => Q .non H', rt := Q } (start N vs) H) : CallOk P w K mg base (L2.CX P w) (k + 1) x ps sp := by
  obtain ⟨f, fd, F, g, b⟩ := D.ex
  exact ⟨f, fd, F.okX S len (hbody f), g, F.kp, b⟩
end
section
variable {X : Cx} {CX : CXT} {k : Nat} {ps : List Str} {sp : Sp} {E : XK} {x : Str} {p pos : Pos} {e : Expr} {es : List Expr} {t : TA}
theorem pe_cal (F : CallOk X.prog X.w X.K X.mg X.base CX k x ps sp) (hr : Room k X.A) (hx : Passes CX X E) (ha : PA X (e :: es) t) (hg : Gl X x := by rfl) (hdb : (x == ("__debug__" : Str)) = false := by decide)
    (he : starEach (e :: es) X.env = (false, eval e X.env) :: starEach es X.env := by rfl) (hpl : (backTo pos (starEach es X.env)).any (·.1) = false := by rfl) :
    PE X (.Call (.Name x p) (e :: es) [] pos) (tCall sp [] E t) := by
  obtain ⟨f, fd, F, g, kp, b⟩ := F
  exact pe_call F hr hg g kp b .nil hx ha hdb he hpl
theorem pe_gi {i : Int} (h : ∃ t, X.mg x = some (.int i t)) (hg : Gl X x := by rfl) (hd : (x == ("__debug__" : Str)) = false := by decide) : PE X (.Name x pos) (tC (.int i)) := by
  obtain ⟨t, h⟩ := h
  exact pe_glob hg h ⟨t, rfl⟩ hd
theorem pe_gs {z : Str} (h : ∃ t, X.mg x = some (.str z t)) (hg : Gl X x := by rfl) (hd : (x == ("__debug__" : Str)) = false := by decide) : PE X (.Name x pos) (tC (.str z)) := by
  obtain ⟨t, h⟩ := h
  exact pe_glob hg h ⟨t, rfl⟩ hd
end
theorem bb_len : bootBuiltins "len" = some (.builtin "len") := by decide +kernel
theorem bb_ord : bootBuiltins "ord" = some (.builtin "ord") := by decide +kernel
theorem bb_isinstance : bootBuiltins "isinstance" = some (.builtin "isinstance") := by decide +kernel
theorem bb_min : bootBuiltins "min" = some (.builtin "min") := by decide +kernel
theorem bb_max : bootBuiltins "max" = some (.builtin "max") := by decide +kernel
theorem bb_sorted : bootBuiltins "sorted" = some (.builtin "sorted") := by decide +kernel
theorem bb_str : bootBuiltins "str" = some (.type "str") := by decide +kernel
theorem bb_int : bootBuiltins "int" = some (.type "int") := by decide +kernel
theorem bb_bool : bootBuiltins "bool" = some (.type "bool") := by decide +kernel
theorem bb_tuple : bootBuiltins "tuple" = some (.type "tuple") := by decide +kernel
theorem bb_list : bootBuiltins "list" = some (.type "list") := by decide +kernel
theorem bb_ValueError : bootBuiltins "ValueError" = some (.type "ValueError") := by decide +kernel
abbrev s_is_name : Stmt := topS 8
abbrev N_is_name : List Str := ["thing", "char"]
theorem sc_is_name : FnScope N_is_name ["thing"] (defScope s_is_name) := ⟨rfl, rfl, rfl, by decide +kernel, rfl, by decide +kernel, by decide +kernel⟩
abbrev s_is_number : Stmt := topS 9
abbrev N_is_number : List Str := ["thing"]
theorem sc_is_number : FnScope N_is_number ["thing"] (defScope s_is_number) := ⟨rfl, rfl, rfl, by decide +kernel, rfl, by decide +kernel, by decide +kernel⟩
abbrev s_is_plain : Stmt := topS 10
abbrev N_is_plain : List Str := ["text", "char"]
theorem sc_is_plain : FnScope N_is_plain ["text"] (defScope s_is_plain) := ⟨rfl, rfl, rfl, by decide +kernel, rfl, by decide +kernel, by decide +kernel⟩
abbrev s_is_text : Stmt := topS 11
abbrev N_is_text : List Str := ["thing"]
theorem sc_is_text : FnScope N_is_text ["thing"] (defScope s_is_text) := ⟨rfl, rfl, rfl, by decide +kernel, rfl, by decide +kernel, by decide +kernel⟩
abbrev s_is_title : Stmt := topS 12
abbrev N_is_title : List Str := ["thing"]
theorem sc_is_title : FnScope N_is_title ["thing"] (defScope s_is_title) := ⟨rfl, rfl, rfl, by decide +kernel, rfl, by decide +kernel, by decide +kernel⟩
abbrev s_is_ref : Stmt := topS 13
abbrev N_is_ref : List Str := ["thing"]
theorem sc_is_ref : FnScope N_is_ref ["thing"] (defScope s_is_ref) := ⟨rfl, rfl, rfl, by decide +kernel, rfl, by decide +kernel, by decide +kernel⟩
abbrev s_is_members : Stmt := topS 17
abbrev N_is_members : List Str := ["thing", "index", "name"]
theorem sc_is_members : FnScope N_is_members ["thing"] (defScope s_is_members) := ⟨rfl, rfl, rfl, by decide +kernel, rfl, by decide +kernel, by decide +kernel⟩
abbrev s_is_body : Stmt := topS 18
abbrev N_is_body : List Str := ["thing", "kind"]
theorem sc_is_body : FnScope N_is_body ["thing"] (defScope s_is_body) := ⟨rfl, rfl, rfl, by decide +kernel, rfl, by decide +kernel, by decide +kernel⟩
abbrev s_target : Stmt := topS 19
abbrev N_target : List Str := ["body"]
theorem sc_target : FnScope N_target ["body"] (defScope s_target) := ⟨rfl, rfl, rfl, by decide +kernel, rfl, by decide +kernel, by decide +kernel⟩
abbrev s_text_of : Stmt := topS 20
abbrev N_text_of : List Str := ["body"]
theorem sc_text_of : FnScope N_text_of ["body"] (defScope s_text_of) := ⟨rfl, rfl, rfl, by decide +kernel, rfl, by decide +kernel, by decide +kernel⟩
abbrev s_unfold : Stmt := topS 26
abbrev N_unfold : List Str := ["lines", "whole", "line"]
theorem sc_unfold : FnScope N_unfold ["lines"] (defScope s_unfold) := ⟨rfl, rfl, rfl, by decide +kernel, rfl, by decide +kernel, by decide +kernel⟩
abbrev s_is_seen : Stmt := topS 29
abbrev N_is_seen : List Str := ["thing", "index", "pair"]
theorem sc_is_seen : FnScope N_is_seen ["thing"] (defScope s_is_seen) := ⟨rfl, rfl, rfl, by decide +kernel, rfl, by decide +kernel, by decide +kernel⟩
abbrev s_is_letter : Stmt := topS 30
abbrev N_is_letter : List Str := ["thing", "author", "number", "stamp", "seen", "body"]
theorem sc_is_letter : FnScope N_is_letter ["thing"] (defScope s_is_letter) := ⟨rfl, rfl, rfl, by decide +kernel, rfl, by decide +kernel, by decide +kernel⟩
abbrev s_ref_words : Stmt := topS 34
abbrev N_ref_words : List Str := ["ref"]
theorem sc_ref_words : FnScope N_ref_words ["ref"] (defScope s_ref_words) := ⟨rfl, rfl, rfl, by decide +kernel, rfl, by decide +kernel, by decide +kernel⟩
abbrev s_body_lines : Stmt := topS 35
abbrev N_body_lines : List Str := ["body", "kind", "lines"]
theorem sc_body_lines : FnScope N_body_lines ["body"] (defScope s_body_lines) := ⟨rfl, rfl, rfl, by decide +kernel, rfl, by decide +kernel, by decide +kernel⟩
abbrev s_header_lines : Stmt := topS 36
abbrev N_header_lines : List Str := ["letter", "pair"]
theorem sc_header_lines : FnScope N_header_lines ["letter"] (defScope s_header_lines) := ⟨rfl, rfl, rfl, by decide +kernel, rfl, by decide +kernel, by decide +kernel⟩
abbrev s_read_number : Stmt := topS 37
abbrev N_read_number : List Str := ["word", "char"]
theorem sc_read_number : FnScope N_read_number ["word"] (defScope s_read_number) := ⟨rfl, rfl, rfl, by decide +kernel, rfl, by decide +kernel, by decide +kernel⟩
abbrev s_read_ref : Stmt := topS 38
abbrev N_read_ref : List Str := ["words", "name", "_", "number"]
theorem sc_read_ref : FnScope N_read_ref ["words"] (defScope s_read_ref) := ⟨rfl, rfl, rfl, by decide +kernel, rfl, by decide +kernel, by decide +kernel⟩
abbrev s_read_body : Stmt := topS 39
abbrev N_read_body : List Str := ["fields", "text", "kind", "names", "members"]
theorem sc_read_body : FnScope N_read_body ["fields", "text"] (defScope s_read_body) := ⟨rfl, rfl, rfl, by decide +kernel, rfl, by decide +kernel, by decide +kernel⟩
abbrev s_read_headers : Stmt := topS 40
abbrev N_read_headers : List Str := ["lines", "text", "fields", "line", "word", "_", "rest", "author", "number", "stamp", "seen", "value", "letter", "words"]
theorem sc_read_headers : FnScope N_read_headers ["lines", "text"] (defScope s_read_headers) := ⟨rfl, rfl, rfl, by decide +kernel, rfl, by decide +kernel, by decide +kernel⟩
abbrev s_head_end : Stmt := topS 44
abbrev N_head_end : List Str := ["lines", "at"]
theorem sc_head_end : FnScope N_head_end ["lines", "at"] (defScope s_head_end) := ⟨rfl, rfl, rfl, by decide +kernel, rfl, by decide +kernel, by decide +kernel⟩
abbrev s_text_end : Stmt := topS 45
abbrev N_text_end : List Str := ["lines", "at"]
theorem sc_text_end : FnScope N_text_end ["lines", "at"] (defScope s_text_end) := ⟨rfl, rfl, rfl, by decide +kernel, rfl, by decide +kernel, by decide +kernel⟩
abbrev s_read_mail : Stmt := topS 46
abbrev N_read_mail : List Str := ["lines", "at", "middle", "end", "text", "letter", "line"]
theorem sc_read_mail : FnScope N_read_mail ["lines", "at"] (defScope s_read_mail) := ⟨rfl, rfl, rfl, by decide +kernel, rfl, by decide +kernel, by decide +kernel⟩
abbrev s__law_is : Stmt := topS 48
abbrev N__law_is : List Str := ["_law_actual", "_law_due"]
theorem sc__law_is : FnScope N__law_is ["_law_actual", "_law_due"] (defScope s__law_is) := ⟨rfl, rfl, rfl, by decide +kernel, rfl, by decide +kernel, by decide +kernel⟩
abbrev s__law_cell : Stmt := topS 49
abbrev N__law_cell : List Str := ["_law_script", "_law_k"]
theorem sc__law_cell : FnScope N__law_cell ["_law_script", "_law_k"] (defScope s__law_cell) := ⟨rfl, rfl, rfl, by decide +kernel, rfl, by decide +kernel, by decide +kernel⟩
abbrev s__law_stream : Stmt := topS 50
abbrev N__law_stream : List Str := ["_law_cell_here", "_law_k", "_law_digits"]
theorem sc__law_stream : FnScope N__law_stream ["_law_cell_here", "_law_k"] (defScope s__law_stream) := ⟨rfl, rfl, rfl, by decide +kernel, rfl, by decide +kernel, by decide +kernel⟩
abbrev s__law_next : Stmt := topS 51
abbrev N__law_next : List Str := ["_law_stream_here", "_law_size", "_law_drawn"]
theorem sc__law_next : FnScope N__law_next ["_law_stream_here", "_law_size"] (defScope s__law_next) := ⟨rfl, rfl, rfl, by decide +kernel, rfl, by decide +kernel, by decide +kernel⟩
abbrev s__law_number : Stmt := topS 52
abbrev N__law_number : List Str := ["_law_stream_here", "_law_kind"]
theorem sc__law_number : FnScope N__law_number ["_law_stream_here"] (defScope s__law_number) := ⟨rfl, rfl, rfl, by decide +kernel, rfl, by decide +kernel, by decide +kernel⟩
abbrev s__law_name : Stmt := topS 53
abbrev N__law_name : List Str := ["_law_stream_here", "_law_letters", "_law_kind", "_law_size", "_law_name_here", "_law_k"]
theorem sc__law_name : FnScope N__law_name ["_law_stream_here"] (defScope s__law_name) := ⟨rfl, rfl, rfl, by decide +kernel, rfl, by decide +kernel, by decide +kernel⟩
abbrev s__law_names : Stmt := topS 54
abbrev N__law_names : List Str := ["_law_stream_here", "_law_most", "_law_start", "_law_names_here", "_law_k", "_law_name_here", "_law_char"]
theorem sc__law_names : FnScope N__law_names ["_law_stream_here", "_law_most"] (defScope s__law_names) := ⟨rfl, rfl, rfl, by decide +kernel, rfl, by decide +kernel, by decide +kernel⟩
abbrev s__law_line : Stmt := topS 55
abbrev N__law_line : List Str := ["_law_stream_here", "_law_size", "_law_chars", "_law_start", "_law_step", "_law_gap", "_law_line_here", "_law_k", "_law_char"]
theorem sc__law_line : FnScope N__law_line ["_law_stream_here", "_law_size"] (defScope s__law_line) := ⟨rfl, rfl, rfl, by decide +kernel, rfl, by decide +kernel, by decide +kernel⟩
abbrev s__law_title : Stmt := topS 56
abbrev N__law_title : List Str := ["_law_stream_here", "_law_size"]
theorem sc__law_title : FnScope N__law_title ["_law_stream_here"] (defScope s__law_title) := ⟨rfl, rfl, rfl, by decide +kernel, rfl, by decide +kernel, by decide +kernel⟩
abbrev s__law_text : Stmt := topS 57
abbrev N__law_text : List Str := ["_law_stream_here", "_law_size", "_law_line_here", "_law_gap", "_law_shift", "_law_text_here", "_law_k"]
theorem sc__law_text : FnScope N__law_text ["_law_stream_here"] (defScope s__law_text) := ⟨rfl, rfl, rfl, by decide +kernel, rfl, by decide +kernel, by decide +kernel⟩
abbrev s__law_body : Stmt := topS 58
abbrev N__law_body : List Str := ["_law_stream_here", "_law_author", "_law_kind", "_law_title_here", "_law_name_here", "_law_ref"]
theorem sc__law_body : FnScope N__law_body ["_law_stream_here", "_law_author"] (defScope s__law_body) := ⟨rfl, rfl, rfl, by decide +kernel, rfl, by decide +kernel, by decide +kernel⟩
abbrev s__law_seen : Stmt := topS 59
abbrev N__law_seen : List Str := ["_law_stream_here", "_law_author", "_law_number_here", "_law_counts", "_law_name_here", "_law_k"]
theorem sc__law_seen : FnScope N__law_seen ["_law_stream_here", "_law_author", "_law_number_here"] (defScope s__law_seen) := ⟨rfl, rfl, rfl, by decide +kernel, rfl, by decide +kernel, by decide +kernel⟩
abbrev s__law_value : Stmt := topS 60
abbrev N__law_value : List Str := ["_law_stream_here", "_law_author", "_law_body_here", "_law_number_here", "_law_least", "_law_stamp"]
theorem sc__law_value : FnScope N__law_value ["_law_stream_here"] (defScope s__law_value) := ⟨rfl, rfl, rfl, by decide +kernel, rfl, by decide +kernel, by decide +kernel⟩
abbrev s__law_is_name : Stmt := topS 61
abbrev N__law_is_name : List Str := ["_law_thing", "_law_k"]
theorem sc__law_is_name : FnScope N__law_is_name ["_law_thing"] (defScope s__law_is_name) := ⟨rfl, rfl, rfl, by decide +kernel, rfl, by decide +kernel, by decide +kernel⟩
abbrev s__law_is_number : Stmt := topS 62
abbrev N__law_is_number : List Str := ["_law_thing"]
theorem sc__law_is_number : FnScope N__law_is_number ["_law_thing"] (defScope s__law_is_number) := ⟨rfl, rfl, rfl, by decide +kernel, rfl, by decide +kernel, by decide +kernel⟩
abbrev s__law_is_line : Stmt := topS 63
abbrev N__law_is_line : List Str := ["_law_thing", "_law_char"]
theorem sc__law_is_line : FnScope N__law_is_line ["_law_thing"] (defScope s__law_is_line) := ⟨rfl, rfl, rfl, by decide +kernel, rfl, by decide +kernel, by decide +kernel⟩
abbrev s__law_is_text : Stmt := topS 64
abbrev N__law_is_text : List Str := ["_law_thing", "_law_char"]
theorem sc__law_is_text : FnScope N__law_is_text ["_law_thing"] (defScope s__law_is_text) := ⟨rfl, rfl, rfl, by decide +kernel, rfl, by decide +kernel, by decide +kernel⟩
abbrev s__law_is_ref : Stmt := topS 65
abbrev N__law_is_ref : List Str := ["_law_thing"]
theorem sc__law_is_ref : FnScope N__law_is_ref ["_law_thing"] (defScope s__law_is_ref) := ⟨rfl, rfl, rfl, by decide +kernel, rfl, by decide +kernel, by decide +kernel⟩
abbrev s__law_is_names : Stmt := topS 66
abbrev N__law_is_names : List Str := ["_law_thing", "_law_k", "_law_name_here"]
theorem sc__law_is_names : FnScope N__law_is_names ["_law_thing"] (defScope s__law_is_names) := ⟨rfl, rfl, rfl, by decide +kernel, rfl, by decide +kernel, by decide +kernel⟩
abbrev s__law_shapes : Stmt := topS 67
abbrev N__law_shapes : List Str := ["_law_kind", "_law_shapes_here", "_law_more"]
theorem sc__law_shapes : FnScope N__law_shapes ["_law_kind"] (defScope s__law_shapes) := ⟨rfl, rfl, rfl, by decide +kernel, rfl, by decide +kernel, by decide +kernel⟩
abbrev s__law_fits : Stmt := topS 68
abbrev N__law_fits : List Str := ["_law_shape", "_law_thing"]
theorem sc__law_fits : FnScope N__law_fits ["_law_shape", "_law_thing"] (defScope s__law_fits) := ⟨rfl, rfl, rfl, by decide +kernel, rfl, by decide +kernel, by decide +kernel⟩
abbrev s__law_is_body : Stmt := topS 69
abbrev N__law_is_body : List Str := ["_law_thing", "_law_shapes_here", "_law_k"]
theorem sc__law_is_body : FnScope N__law_is_body ["_law_thing"] (defScope s__law_is_body) := ⟨rfl, rfl, rfl, by decide +kernel, rfl, by decide +kernel, by decide +kernel⟩
abbrev s__law_is_seen : Stmt := topS 70
abbrev N__law_is_seen : List Str := ["_law_thing", "_law_k", "_law_pair_here"]
theorem sc__law_is_seen : FnScope N__law_is_seen ["_law_thing"] (defScope s__law_is_seen) := ⟨rfl, rfl, rfl, by decide +kernel, rfl, by decide +kernel, by decide +kernel⟩
abbrev s__law_is_value : Stmt := topS 71
abbrev N__law_is_value : List Str := ["_law_thing", "_law_author", "_law_number_here", "_law_stamp", "_law_seen_here", "_law_body_here"]
theorem sc__law_is_value : FnScope N__law_is_value ["_law_thing"] (defScope s__law_is_value) := ⟨rfl, rfl, rfl, by decide +kernel, rfl, by decide +kernel, by decide +kernel⟩
abbrev s__law_text_of : Stmt := topS 72
abbrev N__law_text_of : List Str := ["_law_body_here"]
theorem sc__law_text_of : FnScope N__law_text_of ["_law_body_here"] (defScope s__law_text_of) := ⟨rfl, rfl, rfl, by decide +kernel, rfl, by decide +kernel, by decide +kernel⟩
abbrev s__law_header : Stmt := topS 73
abbrev N__law_header : List Str := ["_law_value_here", "_law_author", "_law_number_here", "_law_stamp", "_law_seen_here", "_law_body_here", "_law_pairs", "_law_kind", "_law_lines", "_law_name_here", "_law_count"]
theorem sc__law_header : FnScope N__law_header ["_law_value_here"] (defScope s__law_header) := ⟨rfl, rfl, rfl, by decide +kernel, rfl, by decide +kernel, by decide +kernel⟩
abbrev s__law_cut : Stmt := topS 74
abbrev N__law_cut : List Str := ["_law_stream_here", "_law_line_here", "_law_parts", "_law_begin", "_law_chance", "_law_place"]
theorem sc__law_cut : FnScope N__law_cut ["_law_stream_here", "_law_line_here"] (defScope s__law_cut) := ⟨rfl, rfl, rfl, by decide +kernel, rfl, by decide +kernel, by decide +kernel⟩
abbrev s__law_mail : Stmt := topS 75
abbrev N__law_mail : List Str := ["_law_stream_here", "_law_value_here", "_law_lines", "_law_line_here", "_law_row"]
theorem sc__law_mail : FnScope N__law_mail ["_law_stream_here", "_law_value_here"] (defScope s__law_mail) := ⟨rfl, rfl, rfl, by decide +kernel, rfl, by decide +kernel, by decide +kernel⟩
abbrev s__law_raises : Stmt := topS 76
abbrev N__law_raises : List Str := ["_law_lines", "_law_at", "e"]
theorem sc__law_raises : FnScope N__law_raises ["_law_lines", "_law_at"] (defScope s__law_raises) := ⟨rfl, rfl, rfl, by decide +kernel, rfl, by decide +kernel, by decide +kernel⟩
abbrev s__law_reads : Stmt := topS 77
abbrev N__law_reads : List Str := ["_law_lines", "_law_at", "_law_value_here", "_law_end", "_law_passed", "_law_answer"]
theorem sc__law_reads : FnScope N__law_reads ["_law_lines", "_law_at", "_law_value_here", "_law_end"] (defScope s__law_reads) := ⟨rfl, rfl, rfl, by decide +kernel, rfl, by decide +kernel, by decide +kernel⟩
abbrev s__law_whole : Stmt := topS 78
abbrev N__law_whole : List Str := ["_law_word", "_law_char"]
theorem sc__law_whole : FnScope N__law_whole ["_law_word"] (defScope s__law_whole) := ⟨rfl, rfl, rfl, by decide +kernel, rfl, by decide +kernel, by decide +kernel⟩
abbrev s__law_pair : Stmt := topS 79
abbrev N__law_pair : List Str := ["_law_words", "_law_parts"]
theorem sc__law_pair : FnScope N__law_pair ["_law_words"] (defScope s__law_pair) := ⟨rfl, rfl, rfl, by decide +kernel, rfl, by decide +kernel, by decide +kernel⟩
abbrev s__law_rests : Stmt := topS 80
abbrev N__law_rests : List Str := ["_law_heads", "_law_words", "_law_rests_here", "_law_k", "_law_begin"]
theorem sc__law_rests : FnScope N__law_rests ["_law_heads", "_law_words"] (defScope s__law_rests) := ⟨rfl, rfl, rfl, by decide +kernel, rfl, by decide +kernel, by decide +kernel⟩
abbrev s__law_body_words : Stmt := topS 81
abbrev N__law_body_words : List Str := ["_law_kind", "_law_words", "_law_more"]
theorem sc__law_body_words : FnScope N__law_body_words ["_law_kind"] (defScope s__law_body_words) := ⟨rfl, rfl, rfl, by decide +kernel, rfl, by decide +kernel, by decide +kernel⟩
abbrev s__law_read_body : Stmt := topS 82
abbrev N__law_read_body : List Str := ["_law_kind", "_law_rests_here", "_law_rows", "_law_text_here"]
theorem sc__law_read_body : FnScope N__law_read_body ["_law_kind", "_law_rests_here", "_law_rows"] (defScope s__law_read_body) := ⟨rfl, rfl, rfl, by decide +kernel, rfl, by decide +kernel, by decide +kernel⟩
abbrev s__law_read_value : Stmt := topS 83
abbrev N__law_read_value : List Str := ["_law_heads", "_law_rows", "_law_kind", "_law_words", "_law_rests_here", "_law_author", "_law_number_here", "_law_seen_here", "_law_value_here", "_law_pair_here"]
theorem sc__law_read_value : FnScope N__law_read_value ["_law_heads", "_law_rows"] (defScope s__law_read_value) := ⟨rfl, rfl, rfl, by decide +kernel, rfl, by decide +kernel, by decide +kernel⟩
abbrev s__law_read : Stmt := topS 84
abbrev N__law_read : List Str := ["_law_lines", "_law_heads", "_law_rows", "_law_stage", "_law_k", "_law_line_here"]
theorem sc__law_read : FnScope N__law_read ["_law_lines"] (defScope s__law_read) := ⟨rfl, rfl, rfl, by decide +kernel, rfl, by decide +kernel, by decide +kernel⟩
abbrev s__law_other_line : Stmt := topS 85
abbrev N__law_other_line : List Str := ["_law_stream_here", "_law_lines"]
theorem sc__law_other_line : FnScope N__law_other_line ["_law_stream_here"] (defScope s__law_other_line) := ⟨rfl, rfl, rfl, by decide +kernel, rfl, by decide +kernel, by decide +kernel⟩
abbrev s__law_other_chars : Stmt := topS 86
abbrev N__law_other_chars : List Str := ["_law_stream_here", "_law_line_here", "_law_char", "_law_kind", "_law_at"]
theorem sc__law_other_chars : FnScope N__law_other_chars ["_law_stream_here", "_law_line_here"] (defScope s__law_other_chars) := ⟨rfl, rfl, rfl, by decide +kernel, rfl, by decide +kernel, by decide +kernel⟩
abbrev s__law_change : Stmt := topS 87
abbrev N__law_change : List Str := ["_law_stream_here", "_law_lines", "_law_kind", "_law_at", "_law_place"]
theorem sc__law_change : FnScope N__law_change ["_law_stream_here", "_law_lines"] (defScope s__law_change) := ⟨rfl, rfl, rfl, by decide +kernel, rfl, by decide +kernel, by decide +kernel⟩
abbrev s__law_asked : Stmt := topS 88
abbrev N__law_asked : List Str := ["_law_lines", "_law_front", "_law_value_here", "_law_end", "_law_passed", "_law_kept"]
theorem sc__law_asked : FnScope N__law_asked ["_law_lines", "_law_front"] (defScope s__law_asked) := ⟨rfl, rfl, rfl, by decide +kernel, rfl, by decide +kernel, by decide +kernel⟩
abbrev s_law : Stmt := topS 89
abbrev N_law : List Str := ["_law_script", "_law_k", "_law_stream_here", "_law_value_here", "_law_lines", "_law_turn", "_law_spoilt", "_law_change_here"]
theorem sc_law : FnScope N_law ["_law_script"] (defScope s_law) := ⟨rfl, rfl, rfl, by decide +kernel, rfl, by decide +kernel, by decide +kernel⟩
abbrev s_init : Stmt := inClass (topS 28) 0
abbrev N_init : List Str := ["self", "author", "number", "stamp", "seen", "body"]
theorem sc_init : FnScope N_init N_init (defScope s_init) := ⟨rfl, rfl, rfl, by decide +kernel, rfl, by decide +kernel, by decide +kernel⟩
abbrev s_ref : Stmt := inClass (topS 28) 1
abbrev N_ref : List Str := ["self"]
theorem sc_ref : FnScope N_ref N_ref (defScope s_ref) := ⟨rfl, rfl, rfl, by decide +kernel, rfl, by decide +kernel, by decide +kernel⟩
abbrev s_value : Stmt := inClass (topS 28) 5
abbrev N_value : List Str := ["self"]
theorem sc_value : FnScope N_value N_value (defScope s_value) := ⟨rfl, rfl, rfl, by decide +kernel, rfl, by decide +kernel, by decide +kernel⟩
abbrev partsL : List (Str × Int) := [("found", 2), ("say", 1), ("reply", 2), ("edit", 2), ("recall", 1), ("mark", 2), ("title", 1), ("add", 1), ("cut", 1), ("hand", 1), ("seen", 0)]
def EntOk (e : DictEntry) (p : Str × Int) : Prop := (∃ t, e.key = .str p.1 t) ∧ ∃ t, e.val = .int p.2 t
structure Parts (K : PySem.W.Frag) (w : World) (mg : Str → Option Value) : Prop where
  ex : ∃ d es n, mg "PARTS" = some (.ref d) ∧ K.lookup d = some ⟨.type "dict", none, .dict es n, #[]⟩ ∧ PySem.W.KeysLit w.params es.toList ∧ (d == sysModules) = false ∧ Paired EntOk es.toList partsL
/-- what the top leaves; C: the class Letter, CB: BadMail -/
structure Txt (w : World) (K : PySem.W.Frag) (mg : Str → Option Value) (C CB : Addr) : Prop where
  d_is_name : DefIn K mg "is_name" s_is_name ["thing"]
  d_is_number : DefIn K mg "is_number" s_is_number ["thing"]
  d_is_plain : DefIn K mg "is_plain" s_is_plain ["text"]
  d_is_text : DefIn K mg "is_text" s_is_text ["thing"]
  d_is_title : DefIn K mg "is_title" s_is_title ["thing"]
  d_is_ref : DefIn K mg "is_ref" s_is_ref ["thing"]
  d_is_members : DefIn K mg "is_members" s_is_members ["thing"]
  d_is_body : DefIn K mg "is_body" s_is_body ["thing"]
  d_target : DefIn K mg "target" s_target ["body"]
  d_text_of : DefIn K mg "text_of" s_text_of ["body"]
  d_unfold : DefIn K mg "unfold" s_unfold ["lines"]
  d_is_seen : DefIn K mg "is_seen" s_is_seen ["thing"]
  d_is_letter : DefIn K mg "is_letter" s_is_letter ["thing"]
  d_ref_words : DefIn K mg "ref_words" s_ref_words ["ref"]
  d_body_lines : DefIn K mg "body_lines" s_body_lines ["body"]
  d_header_lines : DefIn K mg "header_lines" s_header_lines ["letter"]
  d_read_number : DefIn K mg "read_number" s_read_number ["word"]
  d_read_ref : DefIn K mg "read_ref" s_read_ref ["words"]
  d_read_body : DefIn K mg "read_body" s_read_body ["fields", "text"]
  d_read_headers : DefIn K mg "read_headers" s_read_headers ["lines", "text"]
  d_head_end : DefIn K mg "head_end" s_head_end ["lines", "at"]
  d_text_end : DefIn K mg "text_end" s_text_end ["lines", "at"]
  d_read_mail : DefIn K mg "read_mail" s_read_mail ["lines", "at"]
  d__law_is : DefIn K mg "_law_is" s__law_is ["_law_actual", "_law_due"]
  d__law_cell : DefIn K mg "_law_cell" s__law_cell ["_law_script", "_law_k"]
  d__law_stream : DefIn K mg "_law_stream" s__law_stream ["_law_cell_here", "_law_k"]
  d__law_next : DefIn K mg "_law_next" s__law_next ["_law_stream_here", "_law_size"]
  d__law_number : DefIn K mg "_law_number" s__law_number ["_law_stream_here"]
  d__law_name : DefIn K mg "_law_name" s__law_name ["_law_stream_here"]
  d__law_names : DefIn K mg "_law_names" s__law_names ["_law_stream_here", "_law_most"]
  d__law_line : DefIn K mg "_law_line" s__law_line ["_law_stream_here", "_law_size"]
  d__law_title : DefIn K mg "_law_title" s__law_title ["_law_stream_here"]
  d__law_text : DefIn K mg "_law_text" s__law_text ["_law_stream_here"]
  d__law_body : DefIn K mg "_law_body" s__law_body ["_law_stream_here", "_law_author"]
  d__law_seen : DefIn K mg "_law_seen" s__law_seen ["_law_stream_here", "_law_author", "_law_number_here"]
  d__law_value : DefIn K mg "_law_value" s__law_value ["_law_stream_here"]
  d__law_is_name : DefIn K mg "_law_is_name" s__law_is_name ["_law_thing"]
  d__law_is_number : DefIn K mg "_law_is_number" s__law_is_number ["_law_thing"]
  d__law_is_line : DefIn K mg "_law_is_line" s__law_is_line ["_law_thing"]
  d__law_is_text : DefIn K mg "_law_is_text" s__law_is_text ["_law_thing"]
  d__law_is_ref : DefIn K mg "_law_is_ref" s__law_is_ref ["_law_thing"]
  d__law_is_names : DefIn K mg "_law_is_names" s__law_is_names ["_law_thing"]
  d__law_shapes : DefIn K mg "_law_shapes" s__law_shapes ["_law_kind"]
  d__law_fits : DefIn K mg "_law_fits" s__law_fits ["_law_shape", "_law_thing"]
  d__law_is_body : DefIn K mg "_law_is_body" s__law_is_body ["_law_thing"]
  d__law_is_seen : DefIn K mg "_law_is_seen" s__law_is_seen ["_law_thing"]
  d__law_is_value : DefIn K mg "_law_is_value" s__law_is_value ["_law_thing"]
  d__law_text_of : DefIn K mg "_law_text_of" s__law_text_of ["_law_body_here"]
  d__law_header : DefIn K mg "_law_header" s__law_header ["_law_value_here"]
  d__law_cut : DefIn K mg "_law_cut" s__law_cut ["_law_stream_here", "_law_line_here"]
  d__law_mail : DefIn K mg "_law_mail" s__law_mail ["_law_stream_here", "_law_value_here"]
  d__law_raises : DefIn K mg "_law_raises" s__law_raises ["_law_lines", "_law_at"]
  d__law_reads : DefIn K mg "_law_reads" s__law_reads ["_law_lines", "_law_at", "_law_value_here", "_law_end"]
  d__law_whole : DefIn K mg "_law_whole" s__law_whole ["_law_word"]
  d__law_pair : DefIn K mg "_law_pair" s__law_pair ["_law_words"]
  d__law_rests : DefIn K mg "_law_rests" s__law_rests ["_law_heads", "_law_words"]
  d__law_body_words : DefIn K mg "_law_body_words" s__law_body_words ["_law_kind"]
  d__law_read_body : DefIn K mg "_law_read_body" s__law_read_body ["_law_kind", "_law_rests_here", "_law_rows"]
  d__law_read_value : DefIn K mg "_law_read_value" s__law_read_value ["_law_heads", "_law_rows"]
  d__law_read : DefIn K mg "_law_read" s__law_read ["_law_lines"]
  d__law_other_line : DefIn K mg "_law_other_line" s__law_other_line ["_law_stream_here"]
  d__law_other_chars : DefIn K mg "_law_other_chars" s__law_other_chars ["_law_stream_here", "_law_line_here"]
  d__law_change : DefIn K mg "_law_change" s__law_change ["_law_stream_here", "_law_lines"]
  d__law_asked : DefIn K mg "_law_asked" s__law_asked ["_law_lines", "_law_front"]
  d_law : DefIn K mg "law" s_law ["_law_script"]
  n_len : mg "len" = none
  n_ord : mg "ord" = none
  n_isinstance : mg "isinstance" = none
  n_min : mg "min" = none
  n_max : mg "max" = none
  n_sorted : mg "sorted" = none
  n_range : mg "range" = none
  n_enumerate : mg "enumerate" = none
  n_str : mg "str" = none
  n_int : mg "int" = none
  n_bool : mg "bool" = none
  n_tuple : mg "tuple" = none
  n_list : mg "list" = none
  n_ValueError : mg "ValueError" = none
  c_LONGEST_NAME : ∃ t, mg "LONGEST_NAME" = some (.int 12 t)
  c_GREATEST_NUMBER : ∃ t, mg "GREATEST_NUMBER" = some (.int 1000000000000000000 t)
  c_LONGEST_TEXT : ∃ t, mg "LONGEST_TEXT" = some (.int 400 t)
  c_LONGEST_TITLE : ∃ t, mg "LONGEST_TITLE" = some (.int 60 t)
  c_MOST_MEMBERS : ∃ t, mg "MOST_MEMBERS" = some (.int 15 t)
  c_MOST_DIGITS : ∃ t, mg "MOST_DIGITS" = some (.int 19 t)
  c_LETTERS : ∃ t, mg "LETTERS" = some (.str "abcdefghijklmnopqrstuvwxyz" t)
  c_DIGITS_names : ∃ t, mg "DIGITS_names" = some (.str "0123456789" t)
  c_DIGITS_headers : ∃ t, mg "DIGITS_headers" = some (.str "0123456789" t)
  c_MARK : ∃ t, mg "MARK" = some (.str "|" t)
  c_LAST : ∃ t, mg "LAST" = some (.str "." t)
  g_Letter : mg "Letter" = some (.ref C)
  g_BadMail : mg "BadMail" = some (.ref CB)
  parts : Parts K w mg
  lcls : Cls K C
  d_init : ∃ f fd, Fun K "__init__" "Letter.__init__" s_init f fd ∧ Mk K C f ∧ Binds K fd N_init []
  d_ref : ∃ p f fd, Fun K "ref" "Letter.ref" s_ref f fd ∧ PropOf K C "ref" p f ∧ Binds K fd N_ref []
  d_value : ∃ f fd, Fun K "value" "Letter.value" s_value f fd ∧ Meth K C "value" f ∧ Binds K fd N_value []
  no_author : NoAttr K C "author"
  no_number : NoAttr K C "number"
  no_stamp : NoAttr K C "stamp"
  no_seen : NoAttr K C "seen"
  no_body : NoAttr K C "body"
  l_class : PySem.W.findIn K (.ref C) "__class__" = some (some (.builtin "object.__class__"))
  l_get : PySem.W.specialIn K (.builtin "object.__class__") "__get__" = some (some (.builtin "getset_descriptor.__get__"))
  l_tak : PySem.W.takesIn K (.builtin "object.__class__") = some true
  l_mro : PySem.W.mroIn K C (.type "object") = some true
  l_kit : PySem.W.kitOne K (.ref C) (.ref C) = some true
  l_kitT : PySem.W.kitOne K (.type "tuple") (.ref C) = some false
  bmx : ∃ B nw i bm, ExcBaseFacts B nw i bm ∧ PySem.W.excIn K CB bm nw = true
  bmk : PySem.W.keepIn K (.ref CB) = true
  bmb : PySem.W.subIn K (.ref CB) (.type "BaseException") = some true
  bmt : PySem.W.typeIn K (.ref CB) = some (.type "type")
  bexc : ExcC K CB
  g_RoomError : ∃ r, mg "RoomError" = some (.ref r) ∧ PySem.W.exmOne K (.ref CB) (.ref r) = some true
  b_BadMail : PySem.W.kitOne K (.ref CB) (.ref CB) = some true
  b_ValueError : PySem.W.kitOne K (.ref CB) (.type "ValueError") = some true
  g_BadLetter : ∃ r, mg "BadLetter" = some (.ref r) ∧ PySem.W.kitOne K (.ref CB) (.ref r) = some false
end K15
set_option maxHeartbeats 0
/-! the head: what the top leaves, looked at in the kernel's run of it. -/
namespace K15
open PySem PySem.Spec PyProof.Rows L2
set_option autoImplicit false
structure FnE where
  at_ : PySem.W.Frag → Addr
  name : Str
  qual : Str
  st : Stmt
def gC (K : PySem.W.Frag) : Addr := He.ga K "Letter"
def gB (K : PySem.W.Frag) : Addr := He.ga K "BadMail"
def gP (K : PySem.W.Frag) : Addr := He.ma K (gC K) "ref"
def gR (K : PySem.W.Frag) : Addr := match PySem.W.recIn K (gP K) "property" with
  | some (.ref g :: _) => g
  | _ => 0
def fnAt (K : PySem.W.Frag) (a : Addr) : He.FnV := match K.lookup a with
  | some ⟨_, _, .func fd, _⟩ => some (fd.name, fd.qualname, fd.params, fd.body, fd.scope, fd.globals, fd.closure, fd.defaults, fd.builtins)
  | _ => none
def FnE.val (d : FnE) : He.FnV := some (d.name, d.qual, defArgs d.st, .stmts (defBody d.st), defScope d.st, mainGlobals, [], .none, builtinsNs)
def FnE.ok (K : PySem.W.Frag) (d : FnE) : Bool := (match K.lookup (d.at_ K) with
  | some ⟨_, _, .func fd, _⟩ => PySem.W.codeIn K fd.code d.qual
  | _ => false) && PySem.W.keepIn K (.ref (d.at_ K))
theorem FnE.fun_ {K : PySem.W.Frag} {d : FnE} (e : fnAt K (d.at_ K) = d.val) (c : d.ok K = true) : ∃ fd, Fun K d.name d.qual d.st (d.at_ K) fd := by
  obtain ⟨c2, kp⟩ := He.ba c
  unfold fnAt at e
  cases q : K.lookup (d.at_ K) with
  | none =>
    rw [q] at c2
    cases c2
  | some o =>
    obtain ⟨oc, od, dt, osl⟩ := o
    rw [q] at c2 e
    cases dt with
    | func fd =>
      obtain ⟨n1, n2, n3, n4, n5, n6, n7, n8, n9, n10, n11, n12, n13, n14, n15⟩ := fd
      have e2 : (some (n1, n2, n3, n4, n5, n6, n7, n8, n15) : He.FnV) = some (d.name, d.qual, defArgs d.st, .stmts (defBody d.st), defScope d.st, mainGlobals, [], .none, builtinsNs) := e
      simp only [Option.some.injEq, Prod.mk.injEq] at e2
      obtain ⟨h1, h2, h3, h4, h5, h6, h7, h8, h9⟩ := e2
      subst h1 h2 h3 h4 h5 h6 h7 h8 h9
      exact ⟨_, fun_mk q c2 kp⟩
    | _ => cases c2
def FnE.glo (x : Str) (st : Stmt) : FnE := ⟨fun K => He.ga K x, x, x, st⟩
def fnsA : List FnE := [.glo "is_name" s_is_name, .glo "is_number" s_is_number, .glo "is_plain" s_is_plain, .glo "is_text" s_is_text, .glo "is_title" s_is_title, .glo "is_ref" s_is_ref, .glo "is_members" s_is_members, .glo "is_body" s_is_body, .glo "target" s_target, .glo "text_of" s_text_of, .glo "unfold" s_unfold, .glo "is_seen" s_is_seen, .glo "is_letter" s_is_letter, .glo "ref_words" s_ref_words, .glo "body_lines" s_body_lines, .glo "header_lines" s_header_lines, .glo "read_number" s_read_number, .glo "read_ref" s_read_ref, .glo "read_body" s_read_body, .glo "read_headers" s_read_headers, .glo "head_end" s_head_end, .glo "text_end" s_text_end, .glo "read_mail" s_read_mail, .glo "_law_is" s__law_is, .glo "_law_cell" s__law_cell, .glo "_law_stream" s__law_stream, .glo "_law_next" s__law_next, .glo "_law_number" s__law_number, .glo "_law_name" s__law_name, .glo "_law_names" s__law_names, .glo "_law_line" s__law_line, .glo "_law_title" s__law_title, .glo "_law_text" s__law_text]
def fnsB : List FnE := [.glo "_law_body" s__law_body, .glo "_law_seen" s__law_seen, .glo "_law_value" s__law_value, .glo "_law_is_name" s__law_is_name, .glo "_law_is_number" s__law_is_number, .glo "_law_is_line" s__law_is_line, .glo "_law_is_text" s__law_is_text, .glo "_law_is_ref" s__law_is_ref, .glo "_law_is_names" s__law_is_names, .glo "_law_shapes" s__law_shapes, .glo "_law_fits" s__law_fits, .glo "_law_is_body" s__law_is_body, .glo "_law_is_seen" s__law_is_seen, .glo "_law_is_value" s__law_is_value, .glo "_law_text_of" s__law_text_of, .glo "_law_header" s__law_header, .glo "_law_cut" s__law_cut, .glo "_law_mail" s__law_mail, .glo "_law_raises" s__law_raises, .glo "_law_reads" s__law_reads, .glo "_law_whole" s__law_whole, .glo "_law_pair" s__law_pair, .glo "_law_rests" s__law_rests, .glo "_law_body_words" s__law_body_words, .glo "_law_read_body" s__law_read_body, .glo "_law_read_value" s__law_read_value, .glo "_law_read" s__law_read, .glo "_law_other_line" s__law_other_line, .glo "_law_other_chars" s__law_other_chars, .glo "_law_change" s__law_change, .glo "_law_asked" s__law_asked, .glo "law" s_law]
def fnsC : List FnE := [⟨fun K => He.ma K (gC K) "__init__", "__init__", "Letter.__init__", s_init⟩, ⟨gR, "ref", "Letter.ref", s_ref⟩, ⟨fun K => He.ma K (gC K) "value", "value", "Letter.value", s_value⟩]
def fns : List FnE := fnsA ++ (fnsB ++ fnsC)
def faA : List He.Fa := [.glo "is_name", .glo "is_number", .glo "is_plain", .glo "is_text", .glo "is_title", .glo "is_ref", .glo "is_members", .glo "is_body", .glo "target", .glo "text_of", .glo "unfold", .glo "is_seen", .glo "is_letter", .glo "ref_words", .glo "body_lines", .glo "header_lines", .glo "read_number", .glo "read_ref", .glo "read_body", .glo "read_headers", .glo "head_end", .glo "text_end", .glo "read_mail", .glo "_law_is", .glo "_law_cell", .glo "_law_stream", .glo "_law_next", .glo "_law_number", .glo "_law_name", .glo "_law_names", .glo "_law_line", .glo "_law_title", .glo "_law_text"]
def faB : List He.Fa := [.glo "_law_body", .glo "_law_seen", .glo "_law_value", .glo "_law_is_name", .glo "_law_is_number", .glo "_law_is_line", .glo "_law_is_text", .glo "_law_is_ref", .glo "_law_is_names", .glo "_law_shapes", .glo "_law_fits", .glo "_law_is_body", .glo "_law_is_seen", .glo "_law_is_value", .glo "_law_text_of", .glo "_law_header", .glo "_law_cut", .glo "_law_mail", .glo "_law_raises", .glo "_law_reads", .glo "_law_whole", .glo "_law_pair", .glo "_law_rests", .glo "_law_body_words", .glo "_law_read_body", .glo "_law_read_value", .glo "_law_read", .glo "_law_other_line", .glo "_law_other_chars", .glo "_law_change", .glo "_law_asked", .glo "law"]
def faC : List He.Fa := [.free "len", .free "ord", .free "isinstance", .free "min", .free "max", .free "sorted", .free "range", .free "enumerate", .free "str", .free "int", .free "bool", .free "tuple", .free "list", .free "ValueError", .int "LONGEST_NAME" 12, .int "GREATEST_NUMBER" 1000000000000000000, .int "LONGEST_TEXT" 400, .int "LONGEST_TITLE" 60, .int "MOST_MEMBERS" 15, .int "MOST_DIGITS" 19, .str "LETTERS" "abcdefghijklmnopqrstuvwxyz", .str "DIGITS_names" "0123456789", .str "DIGITS_headers" "0123456789", .str "MARK" "|", .str "LAST" ".", .glo "Letter", .glo "BadMail", .glo "RoomError", .glo "BadLetter", .glo "PARTS", .cls "Letter", .noat "Letter" "author", .noat "Letter" "number", .noat "Letter" "stamp", .noat "Letter" "seen", .noat "Letter" "body", .meth "Letter" "value", .mkr "Letter", .exc "BadMail", .exm "BadMail" "RoomError" true]
def fas : List He.Fa := faA ++ (faB ++ faC)
def owns : List (PySem.W.Frag → Bool) := [
  fun K => He.eqO (PySem.W.findIn K (.ref (gC K)) "__class__") (some (some (.builtin "object.__class__"))),
  fun K => He.eqO (PySem.W.specialIn K (.builtin "object.__class__") "__get__") (some (some (.builtin "getset_descriptor.__get__"))),
  fun K => decide (PySem.W.takesIn K (.builtin "object.__class__") = some true),
  fun K => decide (PySem.W.mroIn K (gC K) (.type "object") = some true),
  fun K => decide (PySem.W.kitOne K (.ref (gC K)) (.ref (gC K)) = some true),
  fun K => decide (PySem.W.kitOne K (.type "tuple") (.ref (gC K)) = some false),
  fun K => He.eqO (PySem.W.findIn K (.ref (gB K)) "__getattribute__") (some (some (.builtin "BaseException.__getattribute__"))),
  fun K => He.eqO (PySem.W.findIn K (.ref (gB K)) "__getattr__") (some none),
  fun K => PySem.W.hasDictIn K (gB K),
  fun K => He.eqO (PySem.W.findIn K (.ref (gB K)) "__class__") (some (some (.builtin "object.__class__"))),
  fun K => decide (PySem.W.mroIn K (gB K) (.type "object") = some true),
  fun K => decide (PySem.W.kitOne K (.ref (gB K)) (.ref (gB K)) = some true),
  fun K => decide (PySem.W.kitOne K (.ref (gB K)) (.type "ValueError") = some true),
  fun K => decide (PySem.W.kitOne K (.ref (gB K)) (.ref (He.ga K "BadLetter")) = some false),
  fun K => He.eqO (PySem.W.findIn K (.ref (gC K)) "ref") (some (some (.ref (gP K)))),
  fun K => He.eqO (PySem.W.specialIn K (.ref (gP K)) "__get__") (some (some (.builtin "property.__get__"))),
  fun K => decide (PySem.W.takesIn K (.ref (gP K)) = some true),
  fun K => (match PySem.W.recIn K (gP K) "property" with | some (.ref _ :: _) => true | _ => false)]
theorem gR_ok {K : PySem.W.Frag} (h : (match PySem.W.recIn K (gP K) "property" with | some (.ref _ :: _) => true | _ => false) = true) : ∃ rest, PySem.W.recIn K (gP K) "property" = some (.ref (gR K) :: rest) := by
  cases e : PySem.W.recIn K (gP K) "property" with
  | none => rw [e] at h; cases h
  | some l =>
    rw [e] at h
    cases l with
    | nil => cases h
    | cons v r =>
      cases v with
      | ref g =>
        refine ⟨r, ?_⟩
        have : gR K = g := by unfold gR; rw [e]
        rw [this]
      | _ => cases h
/-! ### PARTS -/
abbrev EnV : Type := Option (Str × Int) × Option Int
def entO (e : DictEntry) : EnV := (He.keyOf e, match e.val with | .int i _ => some i | _ => none)
def entV (P : Params) (p : Str × Int) : EnV := (some (p.1, PyData.keyHash P p.1), some p.2)
def dicV (K : PySem.W.Frag) : Option (List EnV) := match K.lookup (He.ga K "PARTS") with
  | some ⟨.type c, none, .dict es _, sl⟩ => (match decide (c = "dict") && (sl.isEmpty && !(He.ga K "PARTS" == sysModules)) with
    | true => some (es.toList.map entO)
    | false => none)
  | _ => none
theorem ents_of {P : Params} : ∀ {l : List DictEntry} {ks : List (Str × Int)}, l.map entO = ks.map (entV P) → PySem.W.KeysLit P l ∧ Paired EntOk l ks
  | [], [], _ => ⟨trivial, .nil⟩
  | [], _ :: _, h => by cases h
  | e :: r, [], h => by cases h
  | e :: r, k :: ks, h => by
    have h1 : entO e :: r.map entO = entV P k :: ks.map (entV P) := h
    injection h1 with h2 h3
    obtain ⟨q1, q2⟩ := ents_of h3
    obtain ⟨h4, h5⟩ := Prod.mk.inj h2
    have k1 : ∃ t, e.key = .str k.1 t ∧ e.hash = PyData.keyHash P k.1 := by
      unfold He.keyOf at h4
      split at h4
      · rename_i x t q
        obtain ⟨h6, h7⟩ := Prod.mk.inj (Option.some.inj h4)
        exact ⟨t, by rw [q, h6], h7⟩
      · cases h4
    have k2 : ∃ t, e.val = .int k.2 t := by
      split at h5
      · rename_i i t q
        exact ⟨t, by rw [q, Option.some.inj h5]⟩
      · cases h5
    obtain ⟨t, k3, k4⟩ := k1
    exact ⟨⟨⟨_, _, k3, k4⟩, q1⟩, .cons ⟨⟨t, k3⟩, k2⟩ q2⟩
theorem parts_of {K : PySem.W.Frag} {w : World} {mg : Str → Option Value} (g : mg "PARTS" = some (.ref (He.ga K "PARTS"))) (h : dicV K = some (partsL.map (entV w.params))) : Parts K w mg := by
  unfold dicV at h
  cases q : K.lookup (He.ga K "PARTS") with
  | none =>
    rw [q] at h
    cases h
  | some o =>
    obtain ⟨oc, od, dt, osl⟩ := o
    rw [q] at h
    cases oc with
    | type c =>
      cases od with
      | none =>
        cases dt with
        | dict es n =>
          have h1 : (match decide (c = "dict") && (osl.isEmpty && !(He.ga K "PARTS" == sysModules)) with
            | true => some (es.toList.map entO)
            | false => none) = some (partsL.map (entV w.params)) := h
          cases z : decide (c = "dict") && (osl.isEmpty && !(He.ga K "PARTS" == sysModules)) with
          | false =>
            rw [z] at h1
            cases h1
          | true =>
            rw [z] at h1
            obtain ⟨z1, z2⟩ := He.ba z
            obtain ⟨z3, z4⟩ := He.ba z2
            have e1 : c = "dict" := of_decide_eq_true z1
            have e2 : osl = #[] := Array.isEmpty_iff.mp z3
            have e3 : (He.ga K "PARTS" == sysModules) = false := by
              cases y : He.ga K "PARTS" == sysModules with
              | false => rfl
              | true =>
                rw [y] at z4
                cases z4
            subst e1 e2
            obtain ⟨r1, r2⟩ := ents_of (Option.some.inj h1)
            exact ⟨_, es, n, g, q, r1, e3, r2⟩
        | _ => cases h
      | some b => cases dt <;> cases h
    | _ => cases od <;> cases dt <;> cases h
/-! ### the Hook -/
abbrev AlK : Type := Bool × List He.FnV × Option (List EnV)
def obsK (K : PySem.W.Frag) : AlK := ((fas.all fun f => f.ok K) && ((fns.all fun d => d.ok K) && owns.all fun f => f K), fns.map fun d => fnAt K (d.at_ K), dicV K)
def valK (w : World) : AlK := (true, fns.map FnE.val, some (partsL.map (entV w.params)))
def SaysK (w : World) (K : PySem.W.Frag) : Prop := obsK K = valK w
/-- what the module's names reach, as far as it is looked at: their objects, what these name, the classes' own tables, methods, a property's getter -/
def stepA (g : Addr → Option Obj) (as : List Addr) : List Addr := as.flatMap fun a => match g a with
  | some o => He.refsO o
  | none => []
def nssA (g : Addr → Option Obj) (as : List Addr) : List Addr := as.flatMap fun a => match g a with
  | some ⟨_, _, .cls cd, _⟩ => [cd.ns]
  | _ => []
def codA (g : Addr → Option Obj) (as : List Addr) : List Addr := as.flatMap fun a => match g a with
  | some ⟨_, _, .func fd, _⟩ => He.refV fd.code
  | some ⟨_, _, .fields vs, _⟩ => vs.toList.flatMap He.refV
  | _ => []
def addrsA (g : Addr → Option Obj) (l1 : List Addr) (n1 m1 : List Addr) : List Addr := mainGlobals :: (l1 ++ (codA g l1 ++ (n1 ++ (m1 ++ (codA g m1 ++ codA g (codA g m1))))))
def obsKG (g : Addr → Option Obj) : AlK := obsK (He.frG g (addrsA g (stepA g [mainGlobals]) (nssA g (stepA g [mainGlobals])) (stepA g (nssA g (stepA g [mainGlobals])))))
def hkK : PySem.W.Hook where
  α := AlK
  obs := fun s => obsKG s.heap.get?
  val := fun w => valK w
  says := fun w h => ∃ K : PySem.W.Frag, K.In h ∧ SaysK w K
  of := fun _ _ e => ⟨_, He.frG_in, e⟩
  keeps := fun _ _ _ ⟨K, hK, c⟩ k => ⟨K, PySem.W.Frag.In.keeps hK k, c⟩
def obK (s : PySem.W.SharedT) : AlK := obsKG (HandSHeadRun.getT s)
theorem obK_eq (s : PySem.W.SharedT) : obK s = hkK.obs s.abs := by
  have e : HandSHeadRun.getT s = s.abs.heap.get? := funext (HandSHeadRun.getT_eq s)
  unfold obK
  rw [e] <;> rfl
section
variable {w : World} {K : PySem.W.Frag}
theorem SaysK.fa (c : SaysK w K) {f : He.Fa} (i : Nat) (h : fas[i]? = some f := by rfl) : f.ok K = true :=
  List.all_eq_true.mp (He.ba (show ((fas.all fun f => f.ok K) && ((fns.all fun d => d.ok K) && owns.all fun f => f K)) = true from congrArg (fun z : AlK => z.1) c)).1 f (List.mem_of_getElem? h)
theorem SaysK.own (c : SaysK w K) {f : PySem.W.Frag → Bool} (i : Nat) (h : owns[i]? = some f := by rfl) : f K = true :=
  List.all_eq_true.mp (He.ba (He.ba (show ((fas.all fun f => f.ok K) && ((fns.all fun d => d.ok K) && owns.all fun f => f K)) = true from congrArg (fun z : AlK => z.1) c)).2).2 f (List.mem_of_getElem? h)
theorem SaysK.fn (c : SaysK w K) {d : FnE} (i : Nat) (h : fns[i]? = some d := by rfl) : ∃ fd, Fun K d.name d.qual d.st (d.at_ K) fd := by
  have c1 := List.all_eq_true.mp (He.ba (He.ba (show ((fas.all fun f => f.ok K) && ((fns.all fun d => d.ok K) && owns.all fun f => f K)) = true from congrArg (fun z : AlK => z.1) c)).2).1 d (List.mem_of_getElem? h)
  have e : fns.map (fun d => fnAt K (d.at_ K)) = fns.map FnE.val := congrArg (fun z : AlK => z.2.1) c
  have e2 : (fns.map fun d => fnAt K (d.at_ K))[i]? = (fns.map FnE.val)[i]? := by rw [e]
  rw [List.getElem?_map, List.getElem?_map, h] at e2
  exact FnE.fun_ (Option.some.inj e2) c1
theorem mkIn {mg : Str → Option Value} {x : Str} {st : Stmt} {ps : List Str} (F : ∃ fd, Fun K x x st (He.ga K x) fd) (g : mg x = some (.ref (He.ga K x)))
    (h : ∀ (kV doc pm : Value) (an : Option Addr) (cdv ct : Value) (us : List Value), us.length = ps.length → bindArgs (PySem.W.fnOf x x (defArgs st) (defBody st) (defScope st) .none kV doc pm an cdv ct) ⟨us, []⟩ = pure (ps.zip us)) : DefIn K mg x st ps := by
  obtain ⟨fd, F⟩ := F
  exact ⟨_, fd, F, g, F.binds h⟩
end
theorem txt_of {w : World} {K : PySem.W.Frag} {h : Heap} {mg : Str → Option Value} (X : K.In h) (G : h.Ns mainGlobals mg) (c : SaysK w K) : Txt w K mg (gC K) (gB K) where
  d_is_name := mkIn (c.fn 0 (d := .glo "is_name" s_is_name)) (He.glo_ok X G (c.fa 0 (f := .glo "is_name"))) (fun _ _ _ _ _ _ us hl => match us, hl with | [_], _ => rfl)
  d_is_number := mkIn (c.fn 1 (d := .glo "is_number" s_is_number)) (He.glo_ok X G (c.fa 1 (f := .glo "is_number"))) (fun _ _ _ _ _ _ us hl => match us, hl with | [_], _ => rfl)
  d_is_plain := mkIn (c.fn 2 (d := .glo "is_plain" s_is_plain)) (He.glo_ok X G (c.fa 2 (f := .glo "is_plain"))) (fun _ _ _ _ _ _ us hl => match us, hl with | [_], _ => rfl)
  d_is_text := mkIn (c.fn 3 (d := .glo "is_text" s_is_text)) (He.glo_ok X G (c.fa 3 (f := .glo "is_text"))) (fun _ _ _ _ _ _ us hl => match us, hl with | [_], _ => rfl)
  d_is_title := mkIn (c.fn 4 (d := .glo "is_title" s_is_title)) (He.glo_ok X G (c.fa 4 (f := .glo "is_title"))) (fun _ _ _ _ _ _ us hl => match us, hl with | [_], _ => rfl)
  d_is_ref := mkIn (c.fn 5 (d := .glo "is_ref" s_is_ref)) (He.glo_ok X G (c.fa 5 (f := .glo "is_ref"))) (fun _ _ _ _ _ _ us hl => match us, hl with | [_], _ => rfl)
  d_is_members := mkIn (c.fn 6 (d := .glo "is_members" s_is_members)) (He.glo_ok X G (c.fa 6 (f := .glo "is_members"))) (fun _ _ _ _ _ _ us hl => match us, hl with | [_], _ => rfl)
  d_is_body := mkIn (c.fn 7 (d := .glo "is_body" s_is_body)) (He.glo_ok X G (c.fa 7 (f := .glo "is_body"))) (fun _ _ _ _ _ _ us hl => match us, hl with | [_], _ => rfl)
  d_target := mkIn (c.fn 8 (d := .glo "target" s_target)) (He.glo_ok X G (c.fa 8 (f := .glo "target"))) (fun _ _ _ _ _ _ us hl => match us, hl with | [_], _ => rfl)
  d_text_of := mkIn (c.fn 9 (d := .glo "text_of" s_text_of)) (He.glo_ok X G (c.fa 9 (f := .glo "text_of"))) (fun _ _ _ _ _ _ us hl => match us, hl with | [_], _ => rfl)
  d_unfold := mkIn (c.fn 10 (d := .glo "unfold" s_unfold)) (He.glo_ok X G (c.fa 10 (f := .glo "unfold"))) (fun _ _ _ _ _ _ us hl => match us, hl with | [_], _ => rfl)
  d_is_seen := mkIn (c.fn 11 (d := .glo "is_seen" s_is_seen)) (He.glo_ok X G (c.fa 11 (f := .glo "is_seen"))) (fun _ _ _ _ _ _ us hl => match us, hl with | [_], _ => rfl)
  d_is_letter := mkIn (c.fn 12 (d := .glo "is_letter" s_is_letter)) (He.glo_ok X G (c.fa 12 (f := .glo "is_letter"))) (fun _ _ _ _ _ _ us hl => match us, hl with | [_], _ => rfl)
  d_ref_words := mkIn (c.fn 13 (d := .glo "ref_words" s_ref_words)) (He.glo_ok X G (c.fa 13 (f := .glo "ref_words"))) (fun _ _ _ _ _ _ us hl => match us, hl with | [_], _ => rfl)
  d_body_lines := mkIn (c.fn 14 (d := .glo "body_lines" s_body_lines)) (He.glo_ok X G (c.fa 14 (f := .glo "body_lines"))) (fun _ _ _ _ _ _ us hl => match us, hl with | [_], _ => rfl)
  d_header_lines := mkIn (c.fn 15 (d := .glo "header_lines" s_header_lines)) (He.glo_ok X G (c.fa 15 (f := .glo "header_lines"))) (fun _ _ _ _ _ _ us hl => match us, hl with | [_], _ => rfl)
  d_read_number := mkIn (c.fn 16 (d := .glo "read_number" s_read_number)) (He.glo_ok X G (c.fa 16 (f := .glo "read_number"))) (fun _ _ _ _ _ _ us hl => match us, hl with | [_], _ => rfl)
  d_read_ref := mkIn (c.fn 17 (d := .glo "read_ref" s_read_ref)) (He.glo_ok X G (c.fa 17 (f := .glo "read_ref"))) (fun _ _ _ _ _ _ us hl => match us, hl with | [_], _ => rfl)
  d_read_body := mkIn (c.fn 18 (d := .glo "read_body" s_read_body)) (He.glo_ok X G (c.fa 18 (f := .glo "read_body"))) (fun _ _ _ _ _ _ us hl => match us, hl with | [_, _], _ => rfl)
  d_read_headers := mkIn (c.fn 19 (d := .glo "read_headers" s_read_headers)) (He.glo_ok X G (c.fa 19 (f := .glo "read_headers"))) (fun _ _ _ _ _ _ us hl => match us, hl with | [_, _], _ => rfl)
  d_head_end := mkIn (c.fn 20 (d := .glo "head_end" s_head_end)) (He.glo_ok X G (c.fa 20 (f := .glo "head_end"))) (fun _ _ _ _ _ _ us hl => match us, hl with | [_, _], _ => rfl)
  d_text_end := mkIn (c.fn 21 (d := .glo "text_end" s_text_end)) (He.glo_ok X G (c.fa 21 (f := .glo "text_end"))) (fun _ _ _ _ _ _ us hl => match us, hl with | [_, _], _ => rfl)
  d_read_mail := mkIn (c.fn 22 (d := .glo "read_mail" s_read_mail)) (He.glo_ok X G (c.fa 22 (f := .glo "read_mail"))) (fun _ _ _ _ _ _ us hl => match us, hl with | [_, _], _ => rfl)
  d__law_is := mkIn (c.fn 23 (d := .glo "_law_is" s__law_is)) (He.glo_ok X G (c.fa 23 (f := .glo "_law_is"))) (fun _ _ _ _ _ _ us hl => match us, hl with | [_, _], _ => rfl)
  d__law_cell := mkIn (c.fn 24 (d := .glo "_law_cell" s__law_cell)) (He.glo_ok X G (c.fa 24 (f := .glo "_law_cell"))) (fun _ _ _ _ _ _ us hl => match us, hl with | [_, _], _ => rfl)
  d__law_stream := mkIn (c.fn 25 (d := .glo "_law_stream" s__law_stream)) (He.glo_ok X G (c.fa 25 (f := .glo "_law_stream"))) (fun _ _ _ _ _ _ us hl => match us, hl with | [_, _], _ => rfl)
  d__law_next := mkIn (c.fn 26 (d := .glo "_law_next" s__law_next)) (He.glo_ok X G (c.fa 26 (f := .glo "_law_next"))) (fun _ _ _ _ _ _ us hl => match us, hl with | [_, _], _ => rfl)
  d__law_number := mkIn (c.fn 27 (d := .glo "_law_number" s__law_number)) (He.glo_ok X G (c.fa 27 (f := .glo "_law_number"))) (fun _ _ _ _ _ _ us hl => match us, hl with | [_], _ => rfl)
  d__law_name := mkIn (c.fn 28 (d := .glo "_law_name" s__law_name)) (He.glo_ok X G (c.fa 28 (f := .glo "_law_name"))) (fun _ _ _ _ _ _ us hl => match us, hl with | [_], _ => rfl)
  d__law_names := mkIn (c.fn 29 (d := .glo "_law_names" s__law_names)) (He.glo_ok X G (c.fa 29 (f := .glo "_law_names"))) (fun _ _ _ _ _ _ us hl => match us, hl with | [_, _], _ => rfl)
  d__law_line := mkIn (c.fn 30 (d := .glo "_law_line" s__law_line)) (He.glo_ok X G (c.fa 30 (f := .glo "_law_line"))) (fun _ _ _ _ _ _ us hl => match us, hl with | [_, _], _ => rfl)
  d__law_title := mkIn (c.fn 31 (d := .glo "_law_title" s__law_title)) (He.glo_ok X G (c.fa 31 (f := .glo "_law_title"))) (fun _ _ _ _ _ _ us hl => match us, hl with | [_], _ => rfl)
  d__law_text := mkIn (c.fn 32 (d := .glo "_law_text" s__law_text)) (He.glo_ok X G (c.fa 32 (f := .glo "_law_text"))) (fun _ _ _ _ _ _ us hl => match us, hl with | [_], _ => rfl)
  d__law_body := mkIn (c.fn 33 (d := .glo "_law_body" s__law_body)) (He.glo_ok X G (c.fa 33 (f := .glo "_law_body"))) (fun _ _ _ _ _ _ us hl => match us, hl with | [_, _], _ => rfl)
  d__law_seen := mkIn (c.fn 34 (d := .glo "_law_seen" s__law_seen)) (He.glo_ok X G (c.fa 34 (f := .glo "_law_seen"))) (fun _ _ _ _ _ _ us hl => match us, hl with | [_, _, _], _ => rfl)
  d__law_value := mkIn (c.fn 35 (d := .glo "_law_value" s__law_value)) (He.glo_ok X G (c.fa 35 (f := .glo "_law_value"))) (fun _ _ _ _ _ _ us hl => match us, hl with | [_], _ => rfl)
  d__law_is_name := mkIn (c.fn 36 (d := .glo "_law_is_name" s__law_is_name)) (He.glo_ok X G (c.fa 36 (f := .glo "_law_is_name"))) (fun _ _ _ _ _ _ us hl => match us, hl with | [_], _ => rfl)
  d__law_is_number := mkIn (c.fn 37 (d := .glo "_law_is_number" s__law_is_number)) (He.glo_ok X G (c.fa 37 (f := .glo "_law_is_number"))) (fun _ _ _ _ _ _ us hl => match us, hl with | [_], _ => rfl)
  d__law_is_line := mkIn (c.fn 38 (d := .glo "_law_is_line" s__law_is_line)) (He.glo_ok X G (c.fa 38 (f := .glo "_law_is_line"))) (fun _ _ _ _ _ _ us hl => match us, hl with | [_], _ => rfl)
  d__law_is_text := mkIn (c.fn 39 (d := .glo "_law_is_text" s__law_is_text)) (He.glo_ok X G (c.fa 39 (f := .glo "_law_is_text"))) (fun _ _ _ _ _ _ us hl => match us, hl with | [_], _ => rfl)
  d__law_is_ref := mkIn (c.fn 40 (d := .glo "_law_is_ref" s__law_is_ref)) (He.glo_ok X G (c.fa 40 (f := .glo "_law_is_ref"))) (fun _ _ _ _ _ _ us hl => match us, hl with | [_], _ => rfl)
  d__law_is_names := mkIn (c.fn 41 (d := .glo "_law_is_names" s__law_is_names)) (He.glo_ok X G (c.fa 41 (f := .glo "_law_is_names"))) (fun _ _ _ _ _ _ us hl => match us, hl with | [_], _ => rfl)
  d__law_shapes := mkIn (c.fn 42 (d := .glo "_law_shapes" s__law_shapes)) (He.glo_ok X G (c.fa 42 (f := .glo "_law_shapes"))) (fun _ _ _ _ _ _ us hl => match us, hl with | [_], _ => rfl)
  d__law_fits := mkIn (c.fn 43 (d := .glo "_law_fits" s__law_fits)) (He.glo_ok X G (c.fa 43 (f := .glo "_law_fits"))) (fun _ _ _ _ _ _ us hl => match us, hl with | [_, _], _ => rfl)
  d__law_is_body := mkIn (c.fn 44 (d := .glo "_law_is_body" s__law_is_body)) (He.glo_ok X G (c.fa 44 (f := .glo "_law_is_body"))) (fun _ _ _ _ _ _ us hl => match us, hl with | [_], _ => rfl)
  d__law_is_seen := mkIn (c.fn 45 (d := .glo "_law_is_seen" s__law_is_seen)) (He.glo_ok X G (c.fa 45 (f := .glo "_law_is_seen"))) (fun _ _ _ _ _ _ us hl => match us, hl with | [_], _ => rfl)
  d__law_is_value := mkIn (c.fn 46 (d := .glo "_law_is_value" s__law_is_value)) (He.glo_ok X G (c.fa 46 (f := .glo "_law_is_value"))) (fun _ _ _ _ _ _ us hl => match us, hl with | [_], _ => rfl)
  d__law_text_of := mkIn (c.fn 47 (d := .glo "_law_text_of" s__law_text_of)) (He.glo_ok X G (c.fa 47 (f := .glo "_law_text_of"))) (fun _ _ _ _ _ _ us hl => match us, hl with | [_], _ => rfl)
  d__law_header := mkIn (c.fn 48 (d := .glo "_law_header" s__law_header)) (He.glo_ok X G (c.fa 48 (f := .glo "_law_header"))) (fun _ _ _ _ _ _ us hl => match us, hl with | [_], _ => rfl)
  d__law_cut := mkIn (c.fn 49 (d := .glo "_law_cut" s__law_cut)) (He.glo_ok X G (c.fa 49 (f := .glo "_law_cut"))) (fun _ _ _ _ _ _ us hl => match us, hl with | [_, _], _ => rfl)
  d__law_mail := mkIn (c.fn 50 (d := .glo "_law_mail" s__law_mail)) (He.glo_ok X G (c.fa 50 (f := .glo "_law_mail"))) (fun _ _ _ _ _ _ us hl => match us, hl with | [_, _], _ => rfl)
  d__law_raises := mkIn (c.fn 51 (d := .glo "_law_raises" s__law_raises)) (He.glo_ok X G (c.fa 51 (f := .glo "_law_raises"))) (fun _ _ _ _ _ _ us hl => match us, hl with | [_, _], _ => rfl)
  d__law_reads := mkIn (c.fn 52 (d := .glo "_law_reads" s__law_reads)) (He.glo_ok X G (c.fa 52 (f := .glo "_law_reads"))) (fun _ _ _ _ _ _ us hl => match us, hl with | [_, _, _, _], _ => rfl)
  d__law_whole := mkIn (c.fn 53 (d := .glo "_law_whole" s__law_whole)) (He.glo_ok X G (c.fa 53 (f := .glo "_law_whole"))) (fun _ _ _ _ _ _ us hl => match us, hl with | [_], _ => rfl)
  d__law_pair := mkIn (c.fn 54 (d := .glo "_law_pair" s__law_pair)) (He.glo_ok X G (c.fa 54 (f := .glo "_law_pair"))) (fun _ _ _ _ _ _ us hl => match us, hl with | [_], _ => rfl)
  d__law_rests := mkIn (c.fn 55 (d := .glo "_law_rests" s__law_rests)) (He.glo_ok X G (c.fa 55 (f := .glo "_law_rests"))) (fun _ _ _ _ _ _ us hl => match us, hl with | [_, _], _ => rfl)
  d__law_body_words := mkIn (c.fn 56 (d := .glo "_law_body_words" s__law_body_words)) (He.glo_ok X G (c.fa 56 (f := .glo "_law_body_words"))) (fun _ _ _ _ _ _ us hl => match us, hl with | [_], _ => rfl)
  d__law_read_body := mkIn (c.fn 57 (d := .glo "_law_read_body" s__law_read_body)) (He.glo_ok X G (c.fa 57 (f := .glo "_law_read_body"))) (fun _ _ _ _ _ _ us hl => match us, hl with | [_, _, _], _ => rfl)
  d__law_read_value := mkIn (c.fn 58 (d := .glo "_law_read_value" s__law_read_value)) (He.glo_ok X G (c.fa 58 (f := .glo "_law_read_value"))) (fun _ _ _ _ _ _ us hl => match us, hl with | [_, _], _ => rfl)
  d__law_read := mkIn (c.fn 59 (d := .glo "_law_read" s__law_read)) (He.glo_ok X G (c.fa 59 (f := .glo "_law_read"))) (fun _ _ _ _ _ _ us hl => match us, hl with | [_], _ => rfl)
  d__law_other_line := mkIn (c.fn 60 (d := .glo "_law_other_line" s__law_other_line)) (He.glo_ok X G (c.fa 60 (f := .glo "_law_other_line"))) (fun _ _ _ _ _ _ us hl => match us, hl with | [_], _ => rfl)
  d__law_other_chars := mkIn (c.fn 61 (d := .glo "_law_other_chars" s__law_other_chars)) (He.glo_ok X G (c.fa 61 (f := .glo "_law_other_chars"))) (fun _ _ _ _ _ _ us hl => match us, hl with | [_, _], _ => rfl)
  d__law_change := mkIn (c.fn 62 (d := .glo "_law_change" s__law_change)) (He.glo_ok X G (c.fa 62 (f := .glo "_law_change"))) (fun _ _ _ _ _ _ us hl => match us, hl with | [_, _], _ => rfl)
  d__law_asked := mkIn (c.fn 63 (d := .glo "_law_asked" s__law_asked)) (He.glo_ok X G (c.fa 63 (f := .glo "_law_asked"))) (fun _ _ _ _ _ _ us hl => match us, hl with | [_, _], _ => rfl)
  d_law := mkIn (c.fn 64 (d := .glo "law" s_law)) (He.glo_ok X G (c.fa 64 (f := .glo "law"))) (fun _ _ _ _ _ _ us hl => match us, hl with | [_], _ => rfl)
  n_len := He.free_ok X G (c.fa 65 (f := .free "len"))
  n_ord := He.free_ok X G (c.fa 66 (f := .free "ord"))
  n_isinstance := He.free_ok X G (c.fa 67 (f := .free "isinstance"))
  n_min := He.free_ok X G (c.fa 68 (f := .free "min"))
  n_max := He.free_ok X G (c.fa 69 (f := .free "max"))
  n_sorted := He.free_ok X G (c.fa 70 (f := .free "sorted"))
  n_range := He.free_ok X G (c.fa 71 (f := .free "range"))
  n_enumerate := He.free_ok X G (c.fa 72 (f := .free "enumerate"))
  n_str := He.free_ok X G (c.fa 73 (f := .free "str"))
  n_int := He.free_ok X G (c.fa 74 (f := .free "int"))
  n_bool := He.free_ok X G (c.fa 75 (f := .free "bool"))
  n_tuple := He.free_ok X G (c.fa 76 (f := .free "tuple"))
  n_list := He.free_ok X G (c.fa 77 (f := .free "list"))
  n_ValueError := He.free_ok X G (c.fa 78 (f := .free "ValueError"))
  c_LONGEST_NAME := He.int_ok X G (c.fa 79 (f := .int "LONGEST_NAME" 12))
  c_GREATEST_NUMBER := He.int_ok X G (c.fa 80 (f := .int "GREATEST_NUMBER" 1000000000000000000))
  c_LONGEST_TEXT := He.int_ok X G (c.fa 81 (f := .int "LONGEST_TEXT" 400))
  c_LONGEST_TITLE := He.int_ok X G (c.fa 82 (f := .int "LONGEST_TITLE" 60))
  c_MOST_MEMBERS := He.int_ok X G (c.fa 83 (f := .int "MOST_MEMBERS" 15))
  c_MOST_DIGITS := He.int_ok X G (c.fa 84 (f := .int "MOST_DIGITS" 19))
  c_LETTERS := He.str_ok X G (c.fa 85 (f := .str "LETTERS" "abcdefghijklmnopqrstuvwxyz"))
  c_DIGITS_names := He.str_ok X G (c.fa 86 (f := .str "DIGITS_names" "0123456789"))
  c_DIGITS_headers := He.str_ok X G (c.fa 87 (f := .str "DIGITS_headers" "0123456789"))
  c_MARK := He.str_ok X G (c.fa 88 (f := .str "MARK" "|"))
  c_LAST := He.str_ok X G (c.fa 89 (f := .str "LAST" "."))
  g_Letter := He.glo_ok X G (c.fa 90 (f := .glo "Letter"))
  g_BadMail := He.glo_ok X G (c.fa 91 (f := .glo "BadMail"))
  parts := parts_of (He.glo_ok X G (c.fa 94 (f := .glo "PARTS"))) (congrArg (fun z : AlK => z.2.2) c)
  lcls := He.cls_ok (x := "Letter") (c.fa 95)
  no_author := He.noat_ok (x := "Letter") (f := "author") (c.fa 96)
  no_number := He.noat_ok (x := "Letter") (f := "number") (c.fa 97)
  no_stamp := He.noat_ok (x := "Letter") (f := "stamp") (c.fa 98)
  no_seen := He.noat_ok (x := "Letter") (f := "seen") (c.fa 99)
  no_body := He.noat_ok (x := "Letter") (f := "body") (c.fa 100)
  d_init := by
    obtain ⟨fd, F⟩ := c.fn 65 (d := ⟨fun K => He.ma K (gC K) "__init__", "__init__", "Letter.__init__", s_init⟩)
    exact ⟨_, fd, F, He.mkr_ok (x := "Letter") (c.fa 102), F.binds (fun _ _ _ _ _ _ us hl => match us, hl with | [_, _, _, _, _, _], _ => rfl)⟩
  d_ref := by
    obtain ⟨fd, F⟩ := c.fn 66 (d := ⟨gR, "ref", "Letter.ref", s_ref⟩)
    exact ⟨gP K, _, fd, F, ⟨He.eqO_ok (c.own 14), He.eqO_ok (c.own 15), of_decide_eq_true (c.own 16), gR_ok (c.own 17)⟩, F.binds (fun _ _ _ _ _ _ us hl => match us, hl with | [_], _ => rfl)⟩
  d_value := by
    obtain ⟨fd, F⟩ := c.fn 67 (d := ⟨fun K => He.ma K (gC K) "value", "value", "Letter.value", s_value⟩)
    exact ⟨_, fd, F, He.meth_ok (x := "Letter") (m := "value") (c.fa 101), F.binds (fun _ _ _ _ _ _ us hl => match us, hl with | [_], _ => rfl)⟩
  l_class := He.eqO_ok (c.own 0)
  l_get := He.eqO_ok (c.own 1)
  l_tak := of_decide_eq_true (c.own 2)
  l_mro := of_decide_eq_true (c.own 3)
  l_kit := of_decide_eq_true (c.own 4)
  l_kitT := of_decide_eq_true (c.own 5)
  bmx := ⟨_, _, _, _, PySem.F.excBase_ValueError, (He.exc_ok (x := "BadMail") (c.fa 103)).1⟩
  bmk := (He.exc_ok (x := "BadMail") (c.fa 103)).2.1
  bmb := (He.exc_ok (x := "BadMail") (c.fa 103)).2.2.1
  bmt := (He.exc_ok (x := "BadMail") (c.fa 103)).2.2.2
  bexc := ⟨He.eqO_ok (c.own 6), He.eqO_ok (c.own 7), (He.exc_ok (x := "BadMail") (c.fa 103)).2.2.1, c.own 8, He.eqO_ok (c.own 9), He.eqO_ok (c.own 1), of_decide_eq_true (c.own 2), of_decide_eq_true (c.own 10)⟩
  g_RoomError := ⟨_, He.glo_ok X G (c.fa 92 (f := .glo "RoomError")), He.exm_ok (x := "BadMail") (y := "RoomError") (c.fa 104)⟩
  b_BadMail := of_decide_eq_true (c.own 11)
  b_ValueError := of_decide_eq_true (c.own 12)
  g_BadLetter := ⟨_, He.glo_ok X G (c.fa 93 (f := .glo "BadLetter")), of_decide_eq_true (c.own 13)⟩
def nm0 : List Str := ["_wall", "is_name", "is_number", "is_plain", "is_text", "is_title", "is_ref", "is_members", "is_body", "target", "text_of", "unfold", "is_seen", "is_letter", "ref_words", "body_lines", "header_lines", "read_number", "read_ref", "read_body"]
def nm1 : List Str := ["read_headers", "head_end", "text_end", "read_mail", "_law_is", "_law_cell", "_law_stream", "_law_next", "_law_number", "_law_name", "_law_names", "_law_line", "_law_title", "_law_text", "_law_body", "_law_seen", "_law_value", "_law_is_name", "_law_is_number", "_law_is_line"]
def nm2 : List Str := ["_law_is_text", "_law_is_ref", "_law_is_names", "_law_shapes", "_law_fits", "_law_is_body", "_law_is_seen", "_law_is_value", "_law_text_of", "_law_header", "_law_cut", "_law_mail", "_law_raises", "_law_reads", "_law_whole", "_law_pair", "_law_rests", "_law_body_words", "_law_read_body", "_law_read_value"]
def nm3 : List Str := ["_law_read", "_law_other_line", "_law_other_chars", "_law_change", "_law_asked", "LONGEST_NAME", "GREATEST_NUMBER", "LONGEST_TEXT", "LONGEST_TITLE", "MOST_MEMBERS", "MOST_DIGITS", "LETTERS", "DIGITS_names", "DIGITS_headers", "MARK", "LAST", "RoomError", "BadLetter", "BadMail", "Letter"]
def nm4 : List Str := ["PARTS"]
def nms : List Str := nm0 ++ nm1 ++ nm2 ++ nm3 ++ nm4
abbrev RK : PySem.W.OpenRow := PySem.W.OpenLaw.row PySem.Challenge.rw_lettersonce_k15_whole_spoilt_mail
end K15

set_option maxHeartbeats 4000000
set_option maxHeartbeats 0
namespace K15
open PySem PySem.Spec PyProof.Rows L2
theorem runK_f (w : World) : HandSHeadRun.RunEq RK (PySem.W.view RK.prog [89]) hkK obK 20000 nms (w.withFollow "special-get-raises" false) := by
  intro os
  kernel_rfl
end K15

set_option maxHeartbeats 4000000
set_option maxHeartbeats 0
namespace K15
open PySem PySem.Spec PyProof.Rows L2
theorem runK_t (w : World) : HandSHeadRun.RunEq RK (PySem.W.view RK.prog [89]) hkK obK 20000 nms (w.withFollow "special-get-raises" true) := by
  intro os
  kernel_rfl
end K15

set_option maxHeartbeats 4000000
set_option maxHeartbeats 0
/-! the head's end: what is left of the row is the law's promise. -/
namespace K15
open PySem PySem.Spec PyProof.Rows L2
theorem runK (w : World) : HandSHeadRun.RunEq RK (PySem.W.view RK.prog [89]) hkK obK 20000 nms w :=
  PySem.W.byRow2 "special-get-raises" (P := fun w => HandSHeadRun.RunEq RK (PySem.W.view RK.prog [89]) hkK obK 20000 nms w) runK_f runK_t w
theorem wholeK : RK.prog.tablesWhole = true := by kernel_rfl
theorem bareK : RK.prog.bare := ⟨rfl, rfl, rfl, rfl, rfl, wholeK⟩
/-- what is left -/
def LawEnd : Prop := ∀ (w : World) (mg : Str → Option Value) (fa : Addr) (h : Heap), hkK.says w h → h.Ns mainGlobals mg → mg "law" = some (.ref fa) →
    ∃ (K : PySem.W.Frag) (fd : FuncData) (sp : Sp), K.In h ∧ (∀ (s : Shared) (u : Value), BindsTo s fd ⟨[u], []⟩ [("_law_script", u)]) ∧
      (∀ (H : Hp) (a : Addr) (ns : List Int), ns.length ≤ 63 → Only H → SqL K H a (ns.map V.int) → sp [.ref a] H (fun v _ => v = .bl true) fun _ _ _ => False) ∧
      ∀ base : Heap, K.In base → base.Ns mainGlobals mg → FnOk PySem.Challenge.rw_lettersonce_k15_whole_spoilt_mail.prog w K mg base CX0 9 fa fd ["_law_script"] sp
end K15
section
open PySem PySem.W PySem.Calls PyProof.Rows
theorem K15.main_of (F : K15.LawEnd) : PySem.Challenge.rw_lettersonce_k15_whole_spoilt_mail.Holds := by
  w_on; o_law
  refine HandSHeadRun.head_any (r := OpenLaw.row PySem.Challenge.rw_lettersonce_k15_whole_spoilt_mail) (q := view (OpenLaw.row PySem.Challenge.rw_lettersonce_k15_whole_spoilt_mail).prog [89]) (H := K15.hkK) (ob := K15.obK) (M := 20000) (loose := K15.nms)
    (d := HandSHeadRun.topDef (OpenLaw.row PySem.Challenge.rw_lettersonce_k15_whole_spoilt_mail).prog 89) (kwd := []) K15.obK_eq
    (by kernel_rfl) (fun s => by kernel_rfl) K15.runK (by kernel_rfl) (by kernel_rfl) (by kernel_rfl) (by rfl) (by first | assumption | decide +kernel) (by decide +kernel) K15.bareK ?hw ?hc
  case hw => w_witness2
  case hc =>
    refine L2.walk_ofE (l := PySem.Challenge.rw_lettersonce_k15_whole_spoilt_mail) (n := 63) (k := 9) (x := "_law_script") (CX := L2.CX0) rfl (by decide) (by kernel_rfl) ⟨rfl, by decide, by decide⟩ ?F (fun _ _ _ _ z => z)
    intro w mg fa h Y G hmg0
    have hmg : mg ("law" : PySem.Str) = some (.ref fa) := by
      have e : (HandSHeadRun.topDef (OpenLaw.row PySem.Challenge.rw_lettersonce_k15_whole_spoilt_mail).prog 89).name = ("law" : PySem.Str) := by kernel_rfl
      rw [← e]
      exact hmg0
    exact F w mg fa h Y G hmg
end

set_option maxHeartbeats 4000000
/-! mirrors: what the readers' defs compute, on data. -/
namespace K15
open PySem L2
set_option autoImplicit false
/-- a text of a modest size, of plain signs -/
def StrS (x : Str) : Prop := x.length ≤ 50000 ∧ ∀ c ∈ TL.tl x, c < 128
mutual
/-- data whose texts, lists and tuples are of a modest size -/
def Sm : D → Prop
  | .str x => StrS x
  | .lst ds => ds.length ≤ 50000 ∧ SmL ds
  | .tup ds => ds.length ≤ 50000 ∧ SmL ds
  | .dct _ _ => False
  | .ltr _ _ _ _ _ => False
  | .scr _ => False
  | _ => True
def SmL : List D → Prop
  | [] => True
  | d :: ds => Sm d ∧ SmL ds
end
theorem Sm.pl : ∀ {d : D}, Sm d → d.pl = true
  | .non, _ => rfl
  | .bl _, _ => rfl
  | .int _, _ => rfl
  | .str _, _ => rfl
  | .lst _, _ => rfl
  | .tup _, _ => rfl
  | .dct _ _, h => h.elim
  | .ltr _ _ _ _ _, h => h.elim
  | .scr _, h => h.elim
theorem SmL.get : ∀ {ds : List D} {i : Nat} {d : D}, SmL ds → ds[i]? = some d → Sm d
  | [], _, _, _, e => by simp at e
  | d :: ds, 0, _, h, e => by simp at e; subst e; exact h.1
  | d :: ds, i + 1, _, h, e => SmL.get (i := i) h.2 (by simpa using e)
theorem SmL.mem {ds : List D} {d : D} (h : SmL ds) (m : d ∈ ds) : Sm d := by
  obtain ⟨i, hi⟩ := List.mem_iff_getElem?.mp m
  exact h.get hi
theorem SmL.of {ds : List D} (h : ∀ d ∈ ds, Sm d) : SmL ds := by
  induction ds with
  | nil => trivial
  | cons d r ih => exact ⟨h d List.mem_cons_self, ih fun x hx => h x (List.mem_cons_of_mem _ hx)⟩
theorem SmL.strs {ss : List Str} (h : ∀ s ∈ ss, StrS s) : SmL (ss.map D.str) := by
  refine SmL.of fun d hd => ?_
  obtain ⟨s, hs, rfl⟩ := List.mem_map.mp hd
  exact h s hs
section
open PyProof.Rows
theorem pyL_len : ∀ ds : List D, (D.pyL ds).length = ds.length
  | [] => rfl
  | d :: ds => congrArg (· + 1) (pyL_len ds)
mutual
theorem Sm.ord : ∀ {d : D}, Sm d → d.ord = true
  | .non, _ => rfl
  | .bl _, _ => rfl
  | .int _, _ => rfl
  | .str _, _ => rfl
  | .lst ds, h => SmL.ord (ds := ds) h.2
  | .tup ds, h => SmL.ord (ds := ds) h.2
  | .dct _ _, h => h.elim
  | .ltr _ _ _ _ _, h => h.elim
  | .scr _, h => h.elim
theorem SmL.ord : ∀ {ds : List D}, SmL ds → D.ordL ds = true
  | [], _ => rfl
  | d :: ds, h => by
    show (d.ord && D.ordL ds) = true
    rw [Sm.ord h.1, SmL.ord h.2]; rfl
end
mutual
theorem Sm.lay : ∀ {d : D}, Sm d → d.py.canLay0 = true
  | .non, _ => by simp only [D.py, PyData.canLay0]
  | .bl _, _ => by simp only [D.py, PyData.canLay0]
  | .int _, _ => by simp only [D.py, PyData.canLay0]
  | .str x, h => by
    simp only [D.py, PyData.canLay0]
    unfold PyData.strOk
    rw [Array.all_eq_true']
    intro c hc
    have := h.2 c (Array.mem_toList_iff.mpr hc)
    simp; omega
  | .lst ds, h => by simp only [D.py, PyData.canLay0]; exact SmL.lay (ds := ds) h.2
  | .tup ds, h => by simp only [D.py, PyData.canLay0]; exact SmL.lay (ds := ds) h.2
  | .dct _ _, h => h.elim
  | .ltr _ _ _ _ _, h => h.elim
  | .scr _, h => h.elim
theorem SmL.lay : ∀ {ds : List D}, SmL ds → PyData.canLayAll0 (D.pyL ds) = true
  | [], _ => by simp only [D.pyL, PyData.canLayAll0]
  | d :: ds, h => by
    simp only [D.pyL, PyData.canLayAll0]
    rw [Sm.lay h.1, SmL.lay h.2]; rfl
end
theorem depL {n : Nat} : ∀ {ds : List D}, (∀ d ∈ ds, d.py.depth ≤ n) → PyData.depthAll (D.pyL ds) ≤ n
  | [], _ => by simp only [D.pyL, PyData.depthAll]; omega
  | d :: ds, h => by
    simp only [D.pyL, PyData.depthAll]
    have := h d List.mem_cons_self
    have := depL (ds := ds) fun x hx => h x (List.mem_cons_of_mem _ hx)
    omega
theorem dep_tup {n : Nat} {ds : List D} (h : ∀ d ∈ ds, d.py.depth ≤ n) : (D.tup ds).py.depth ≤ n + 1 := by
  simp only [D.py, PyData.depth]
  have := depL h
  omega
theorem dep_lst {n : Nat} {ds : List D} (h : ∀ d ∈ ds, d.py.depth ≤ n) : (D.lst ds).py.depth ≤ n + 1 := by
  simp only [D.py, PyData.depth]
  have := depL h
  omega
theorem dep_str {x : Str} : (D.str x).py.depth ≤ 0 := by simp only [D.py, PyData.depth]; omega
theorem dep_int {x : Int} : (D.int x).py.depth ≤ 0 := by simp only [D.py, PyData.depth]; omega
theorem dep_non : (D.non).py.depth ≤ 0 := by simp only [D.py, PyData.depth]; omega
theorem Sm.shp {d : D} (h : Sm d) (hd : d.py.depth ≤ 64) : d.shp := ⟨h.ord, by
  unfold SeqAt.shaped
  rw [h.lay]; simp [hd]⟩
/-! ### equality of data without truth values -/
mutual
def D.pure : D → Bool
  | .non => true
  | .int _ => true
  | .str _ => true
  | .lst ds => D.pureL ds
  | .tup ds => D.pureL ds
  | _ => false
def D.pureL : List D → Bool
  | [] => true
  | d :: ds => d.pure && D.pureL ds
end
mutual
theorem eqv_iff : ∀ (x y : D), x.pure = true → y.pure = true → (PyData.eqv x.py y.py = true ↔ x = y)
  | .non, y, _, hy => by cases y <;> first | cases hy; done | simp [D.py, PyData.eqv]
  | .int _, y, _, hy => by cases y <;> first | cases hy; done | simp [D.py, PyData.eqv]
  | .str _, y, _, hy => by cases y <;> first | cases hy; done | simp [D.py, PyData.eqv]
  | .lst ds, y, hx, hy => by
    cases y with
    | lst es =>
      have := eqv_iffL ds es hx hy
      simp only [D.py, PyData.eqv, D.lst.injEq]; exact this
    | _ => first | cases hy; done | simp [D.py, PyData.eqv]
  | .tup ds, y, hx, hy => by
    cases y with
    | tup es =>
      have := eqv_iffL ds es hx hy
      simp only [D.py, PyData.eqv, D.tup.injEq]; exact this
    | _ => first | cases hy; done | simp [D.py, PyData.eqv]
  | .bl _, _, hx, _ => by cases hx
  | .dct _ _, _, hx, _ => by cases hx
  | .ltr _ _ _ _ _, _, hx, _ => by cases hx
  | .scr _, _, hx, _ => by cases hx
theorem eqv_iffL : ∀ (xs ys : List D), D.pureL xs = true → D.pureL ys = true → (PyData.eqvAll (D.pyL xs) (D.pyL ys) = true ↔ xs = ys)
  | [], [], _, _ => by simp [D.pyL, PyData.eqvAll]
  | [], _ :: _, _, _ => by simp [D.pyL, PyData.eqvAll]
  | _ :: _, [], _, _ => by simp [D.pyL, PyData.eqvAll]
  | x :: xs, y :: ys, hx, hy => by
    have hx : (x.pure && D.pureL xs) = true := hx
    have hy : (y.pure && D.pureL ys) = true := hy
    rw [Bool.and_eq_true] at hx hy
    simp only [D.pyL, PyData.eqvAll, Bool.and_eq_true, eqv_iff x y hx.1 hy.1, eqv_iffL xs ys hx.2 hy.2, List.cons.injEq]
end
theorem pureL_of {ds : List D} (h : ∀ d ∈ ds, d.pure = true) : D.pureL ds = true := by
  induction ds with
  | nil => rfl
  | cons d r ih =>
    show (d.pure && D.pureL r) = true
    rw [h d List.mem_cons_self, ih fun x hx => h x (List.mem_cons_of_mem _ hx)]; rfl
theorem mem_pyL {z : PyData} : ∀ {ds : List D}, z ∈ D.pyL ds → ∃ d ∈ ds, z = d.py
  | [], h => by cases h
  | d :: ds, h => by
    rcases List.mem_cons.mp h with e | e
    · exact ⟨d, List.mem_cons_self, e⟩
    · obtain ⟨x, hx, e⟩ := mem_pyL e
      exact ⟨x, List.mem_cons_of_mem _ hx, e⟩
theorem any_pyL {x : D} {ds : List D} (hx : x.pure = true) (hd : ∀ d ∈ ds, d.pure = true) : ((D.pyL ds).any fun z => PyData.eqv z x.py) = true ↔ x ∈ ds := by
  induction ds with
  | nil => simp [D.pyL]
  | cons d r ih =>
    have ih := ih fun y hy => hd y (List.mem_cons_of_mem _ hy)
    show (PyData.eqv d.py x.py || (D.pyL r).any _) = true ↔ _
    rw [Bool.or_eq_true, ih, eqv_iff d x (hd d List.mem_cons_self) hx, List.mem_cons]
    exact ⟨fun h => h.imp (·.symm) id, fun h => h.imp (·.symm) id⟩
end
theorem Pto {P : D → Prop} {a b : Bool} (p : P (.bl a)) (e : a = b) : P (.bl b) := by rw [← e]; exact p
abbrev lettersL : List Nat := ("abcdefghijklmnopqrstuvwxyz" : Str).cps.toList
abbrev digitsL : List Nat := ("0123456789" : Str).cps.toList
def nmCh (c : Nat) : Bool := decide (c ∈ lettersL) || decide (c ∈ digitsL)
def headL (l : List Nat) : Bool := match l with
  | c :: _ => decide (c ∈ lettersL)
  | [] => false
def nameL (l : List Nat) : Bool := decide (1 ≤ l.length) && (decide (l.length ≤ 12) && (l.all nmCh && headL l))
def isNameD : D → Bool
  | .str s => nameL (TL.tl s)
  | _ => false
theorem nameL_no {l : List Nat} (h : ¬ (1 ≤ l.length ∧ l.length ≤ 12)) : nameL l = false := by
  unfold nameL
  by_cases h1 : 1 ≤ l.length
  · have h2 : ¬ l.length ≤ 12 := fun z => h ⟨h1, z⟩
    simp [h2]
  · simp [h1]
theorem nameL_bad {l : List Nat} {c : Nat} (h : c ∈ l) (n : nmCh c = false) : nameL l = false := by
  have : l.all nmCh = false := by
    rw [List.all_eq_false]; exact ⟨c, h, by rw [n]; decide⟩
  unfold nameL
  rw [this]; simp
theorem nameL_yes {l : List Nat} {c : Nat} {r : List Nat} (e : l = c :: r) (h2 : l.length ≤ 12) (h : ∀ x ∈ l, nmCh x = true) : nameL l = decide (c ∈ lettersL) := by
  have : l.all nmCh = true := by rw [List.all_eq_true]; exact h
  unfold nameL
  rw [this]
  have h1 : 1 ≤ l.length := by rw [e, List.length_cons]; omega
  subst e
  simp only [h1, h2, decide_true, Bool.true_and, headL]
def numOk (i : Int) : Bool := decide (1 ≤ i) && decide (i ≤ 1000000000000000000)
def isNumD : D → Bool
  | .int i => numOk i
  | _ => false
def plCh (c : Nat) : Bool := decide (32 ≤ c) && decide (c ≤ 126)
def plainL (l : List Nat) : Bool := l.all plCh
def isTextD : D → Bool
  | .str s => decide (1 ≤ s.length) && (decide (s.length ≤ 400) && plainL ((TL.tl s).filter fun c => !decide (c = 10)))
  | _ => false
def isTitleD : D → Bool
  | .str s => decide (s.length ≤ 60) && plainL (TL.tl s)
  | _ => false
def isRefD : D → Bool
  | .tup [a, n] => isNameD a && isNumD n
  | _ => false
def ltS (a b : Str) : Bool := decide (TL.tl a < TL.tl b)
def strD : D → Str
  | .str s => s
  | _ => Str.empty
/-- texts, each above the one ahead -/
def ascL : List Str → Bool
  | [] => true
  | [_] => true
  | a :: b :: r => ltS a b && ascL (b :: r)
def isMembersD : D → Bool
  | .tup ds => decide (ds.length ≤ 15) && (ds.all isNameD && ascL (ds.map strD))
  | _ => false
def fstD : D → D
  | .tup (a :: _) => a
  | _ => .non
def isSeenD : D → Bool
  | .tup ds => ds.all isRefD && ascL (ds.map fun d => strD (fstD d))
  | _ => false
theorem isNameD_str {d : D} (h : isNameD d = true) : ∃ x, d = .str x := by
  cases d with
  | str x => exact ⟨x, rfl⟩
  | _ => cases h
theorem ascL_snoc {a b : Str} : ∀ {l : List Str}, ascL (l ++ [a]) = true → ltS a b = true → ascL (l ++ [a, b]) = true
  | [], _, h => by simp [ascL, h]
  | [x], h, g => by
    have h : (ltS x a && ascL [a]) = true := h
    rw [Bool.and_eq_true] at h
    show (ltS x a && (ltS a b && ascL [b])) = true
    rw [h.1, g]; rfl
  | x :: y :: l, h, g => by
    have h : (ltS x y && ascL (y :: l ++ [a])) = true := h
    rw [Bool.and_eq_true] at h
    show (ltS x y && ascL (y :: l ++ [a, b])) = true
    rw [h.1, ascL_snoc (l := y :: l) h.2 g]; rfl
theorem ascL_snoc_bad {a b : Str} : ∀ {l : List Str}, ltS a b = false → ascL (l ++ [a, b]) = false
  | [], h => by simp [ascL, h]
  | [x], h => by
    show (ltS x a && (ltS a b && ascL [b])) = false
    rw [h]; simp
  | x :: y :: l, h => by
    show (ltS x y && ascL (y :: l ++ [a, b])) = false
    rw [ascL_snoc_bad (l := y :: l) h]; simp
theorem ascL_take : ∀ {l : List Str} (n : Nat), ascL l = true → ascL (l.take n) = true
  | _, 0, _ => rfl
  | [], n + 1, _ => rfl
  | [x], n + 1, _ => by simp [ascL]
  | x :: y :: l, 1, h => rfl
  | x :: y :: l, n + 2, h => by
    have h : (ltS x y && ascL (y :: l)) = true := h
    rw [Bool.and_eq_true] at h
    show (ltS x y && ascL (y :: l.take n)) = true
    rw [h.1]
    exact ascL_take (l := y :: l) (n + 1) h.2
theorem ascL_bad {l : List Str} {n : Nat} (h : ascL (l.take n) = false) : ascL l = false := by
  cases e : ascL l with
  | false => rfl
  | true => rw [ascL_take n e] at h; cases h
theorem atI_sub1 {α : Type} {ds : List α} {j : Nat} {e : α} (h : ds[j]? = some e) : atI ds (((j + 1 : Nat) : Int) - 1) = some e := by
  have : ((j + 1 : Nat) : Int) - 1 = (j : Nat) := by omega
  rw [this]
  exact atI_nat h
theorem isNumD_int {d : D} (h : isNumD d = true) : ∃ x, d = .int x := by
  cases d with
  | int x => exact ⟨x, rfl⟩
  | _ => cases h
theorem isRefD_eq {d : D} (h : isRefD d = true) : ∃ x n, d = .tup [.str x, .int n] ∧ nameL (TL.tl x) = true ∧ numOk n = true := by
  unfold isRefD at h
  split at h
  · rename_i a n
    rw [Bool.and_eq_true] at h
    obtain ⟨x, rfl⟩ := isNameD_str h.1
    obtain ⟨y, rfl⟩ := isNumD_int h.2
    exact ⟨x, y, rfl, h⟩
  · cases h
/-- how many parts a body of the kind has -/
def partsD (k : Str) : D :=
  if k = "found" then .int 2 else if k = "say" then .int 1 else if k = "reply" then .int 2 else if k = "edit" then .int 2 else if k = "recall" then .int 1 else if k = "mark" then .int 2
  else if k = "title" then .int 1 else if k = "add" then .int 1 else if k = "cut" then .int 1 else if k = "hand" then .int 1 else if k = "seen" then .int 0 else .non
def isBodyD : D → Bool
  | .tup (.str k :: r) =>
    if k = "found" then (match r with | [t, m] => isTitleD t && isMembersD m | _ => false)
    else if k = "say" then (match r with | [t] => isTextD t | _ => false)
    else if k = "reply" then (match r with | [f, t] => isRefD f && isTextD t | _ => false)
    else if k = "edit" then (match r with | [f, t] => isRefD f && isTextD t | _ => false)
    else if k = "recall" then (match r with | [f] => isRefD f | _ => false)
    else if k = "mark" then (match r with | [f, n] => isRefD f && isNameD n | _ => false)
    else if k = "title" then (match r with | [t] => isTitleD t | _ => false)
    else if k = "add" then (match r with | [n] => isNameD n | _ => false)
    else if k = "cut" then (match r with | [n] => isNameD n | _ => false)
    else if k = "hand" then (match r with | [n] => isNameD n | _ => false)
    else if k = "seen" then (match r with | [] => true | _ => false)
    else false
  | _ => false
def pairIn (a : D) (n : D) (ds : List D) : Bool := ds.any fun d => match d with
  | .tup [.str x, .int j] => (match a, n with | .str y, .int i => decide (x = y) && decide (j = i) | _, _ => false)
  | _ => false
def kindD : D → Str
  | .tup (.str k :: _) => k
  | _ => Str.empty
def memD : D → List D
  | .tup (_ :: _ :: .tup ms :: _) => ms
  | _ => []
def tupD : D → List D
  | .tup ds => ds
  | _ => []
def intD : D → Int
  | .int i => i
  | _ => 0
def isLetterD : D → Bool
  | .tup [a, n, s, e, b] =>
    (isNameD a && (isNumD n && isNumD s)) && ((isSeenD e && isBodyD b) && ((pairIn a n (tupD e) && decide (intD n ≤ intD s)) &&
      (if kindD b = "found" then decide (intD s = 1) && (decide ((tupD e).length = 1) && !(memD b).any (D.eqS (strD a))) else decide (1 < intD s))))
  | _ => false
end K15
/-! rules of our own: enumerate over a tuple, in a tuple of data, the module's dict PARTS, replace behind a test. -/
namespace PySem
open Sem (wp)
theorem meets_enumerate_newB1 {v : Value} {o : Obj} {H : Heap → Prop} (B : Begins v o H) :
    Meets (Builtin.«enumerate.__new__» ⟨[.type "enumerate", v], []⟩) (fun _ R s => H s.heap ∧
      R (.ok (.ret (.ref (s.heap.push o).objs.size))) { s with heap := (s.heap.push o).push { cls := .type "enumerate", data := .fields #[.none, .bool false, .ref s.heap.objs.size, rawInt 0, .none, .none] } }) :=
  .of_wp fun prog w A R s h => by
    obtain ⟨hp, g, d, tk, os⟩ := s; obtain ⟨h1, h⟩ := h
    have hsub := sub_enumerate
    have q1 : ∀ {A' : Around} {E : Value → Shared → Prop} {Q : Value → Shared → Prop}, Q (.ref hp.objs.size) ⟨hp.push o, g, d, tk, os⟩ → wpAny (model prog w) A' (pyIter v) Q E ⟨hp, g, d, tk, os⟩ :=
      fun q => B.iter prog w _ _ ⟨hp, g, d, tk, os⟩ _ h1 q
    wp_walk using q1
    refine wpAny_stack_any fun st => wpAny_pure ?_
    split
    · rename_i c _ _ _ _ _
      cases (c == Value.type "enumerate")
      · wp_walk using q1
        exact ⟨_, rfl, h⟩
      · wp_walk using q1
        exact ⟨_, rfl, h⟩
    · wp_walk using q1
      exact ⟨_, rfl, h⟩
section
variable {prog : Program} {w : World} {A : Around} {E : Value → Shared → Prop} {s : Shared}
theorem pyNext_enum_endT {e it l : Addr} {c : Int} {i : Nat} {items : Array Value} {old : Value} {Q : Option Value → Shared → Prop} (hh : A.in1.handled = none)
    (he : IsEnum s.heap e it c old) (hit : s.heap.IsTupleIter it l i) (hl : s.heap.IsTuple l items) (hx : items[i]? = none)
    (hQ : ∀ h', Heap.ExtBut it s.heap h' → Q none { s with heap := h' }) : wpAny (model prog w) A (pyNext (.ref e)) Q E s := by
  have hT : s.TypeIs (.ref e) "enumerate" := ⟨_, he, rfl⟩
  unfold pyNext
  refine wpAny_bind (wpAny_attempt (wpAny_callSpecial?_slot (name := Str.ofString "__next__") hT F.slot_enumerate_next
    (wpAny_call_entry F.slot_enumerate_next hT F.entry_enumerate_next ?_ (F.args_enumerate_next_1 _))))
  show wpAny _ _ (field (.ref e) 2 >>= _) _ _ _
  refine wpAny_bind (wpAny_field he rfl (x := .ref it) rfl ?_)
  refine wpAny_bind (wpAny_nextOf_tuple_end hh hit hl hx fun h' x he' hx' => ?_)
  obtain ⟨o, ho, hc⟩ := hx'
  refine wpAny_bind (wpAny_isInstance (T := "StopIteration") (b := true) ⟨o, ho, hc⟩ isSubtype_stop ?_)
  exact wpAny_pure (hQ _ he')
theorem enum_begins1 {v : Value} {o : Obj} {H : Heap → Prop} {Q : Value → Shared → Prop} (B : Begins v o H) (h1 : H s.heap)
    (h : ∀ h', IsEnum h' (s.heap.objs.size + 1) s.heap.objs.size 0 .none → h'.get? s.heap.objs.size = some o → h'.objs.size = s.heap.objs.size + 2 →
      (∀ b o, s.heap.get? b = some o → h'.get? b = some o) → Q (.ref (s.heap.objs.size + 1)) { s with heap := h' }) :
    wpAny (model prog w) A (call (.type "enumerate") [v]) Q E s := by
  refine callType_new F.called_enumerate (by decide) (F.typeCall_enumerate_1 _) (F.newCall_enumerate_1 _) (fun obj => F.args_object_init_2 obj _) F.entry_enumerate_new
    (meets_enumerate_newB1 B) ⟨h1, ?_⟩
  have hz : (s.heap.push o).objs.size = s.heap.objs.size + 1 := Heap.size_push ..
  show _ ∧ _
  rw [hz]
  have he : IsEnum ((s.heap.push o).push { cls := .type "enumerate", data := .fields #[.none, .bool false, .ref s.heap.objs.size, rawInt 0, .none, .none] }) (s.heap.objs.size + 1) s.heap.objs.size 0 .none := by
    have := Heap.get?_push_size (s.heap.push o) (o := { cls := .type "enumerate", data := .fields #[.none, .bool false, .ref s.heap.objs.size, rawInt 0, .none, .none] }) rfl
    rw [hz] at this; exact this
  refine ⟨⟨_, he, rfl⟩, h _ he (Heap.get?_push_of_some _ (Heap.get?_push_size _ B.free)) (by rw [Heap.size_push, hz]) fun b o x => Heap.get?_push_of_some _ (Heap.get?_push_of_some _ x)⟩
end
end PySem
namespace K15
open PySem PySem.Spec PyProof.Rows L2
open Evl (Ex ex_rd ex_l ex_t)
set_option autoImplicit false
/-! ### enumerate over a tuple -/
def Itet (K : PySem.W.Frag) (a : Addr) : It :=
  ⟨fun i H => ∃ (xs : List V) (x : V), SqT K H a xs ∧ xs[i]? = some x, fun i H v H' => ∃ T x, v = .ref T ∧ H T = none ∧ H' = upd H T (.tup [.int (i : Nat), x]) ∧ ∀ xs, SqT K H a xs → xs[i]? = some x, fun i H => ∃ xs : List V, SqT K H a xs ∧ xs.length ≤ i⟩
theorem turn_enumT {P : Program} {w : World} {K : PySem.W.Frag} {elts : List Expr} {kk : Nat} {tpos : Pos} (a e it : Addr) :
    Turn P w K (.Tuple elts kk tpos) (Itet K a) [e, it] e (fun i h => (∃ old, IsEnum h e it ((i : Nat) : Int) old) ∧ h.IsTupleIter it a i ∧ e ≠ it ∧ a ≠ it ∧ e ≠ a) where
  mem := by simp
  obj := fun i h st b hb => by
    obtain ⟨⟨old, he⟩, ⟨o, ho, hc, hd⟩, _⟩ := st
    have e' : b = e ∨ b = it := by simpa using hb
    rcases e' with z | z
    · rw [z]; exact ⟨_, he, fun v q => nomatch q⟩
    · rw [z]; exact ⟨o, ho, fun v q => by rw [hd] at q; cases q⟩
  keep := fun i h h' st k => let ⟨⟨old, he⟩, hi, hne⟩ := st; ⟨⟨old, k e (by simp) _ he⟩, hi.at fun o q => k it (by simp) o q, hne⟩
  item := by
    intro X hP hw hK hc i pins s σ H E I hf st hg
    subst hP hw hK
    obtain ⟨⟨old, he⟩, hit, hne, hai, hea⟩ := st
    obtain ⟨xs, x, hq, hx⟩ := hg
    obtain ⟨its, rv, p, hz⟩ := I.tuple hq
    obtain ⟨u, hu, ru⟩ := rv.get hx
    have hel : e < s.heap.objs.size := Heap.lt_size he
    have hil : it < s.heap.objs.size := by obtain ⟨_, q, _⟩ := hit; exact Heap.lt_size q
    have hA : X.A.in1.handled = none := I.ok.hd hc
    have hsz2 : i < its.toArray.size := by
      have := (List.getElem?_eq_some_iff.mp hu).1
      simpa using this
    have tup : s.heap.IsTuple a its.toArray := by
      obtain ⟨o, ho, hcl, n, hd⟩ := p
      exact ⟨o, ho, hcl, n, hd⟩
    refine wpAny_pyNext_enum_itemC (Draws.tuple hA it a hai its.toArray) he ⟨hit, tup⟩ hsz2 hne (by simp [hne, hea]) fun x' h' tk hx' ho hst' hT hsz hk => ?_
    have hxu : x' = u := by
      have : its.toArray[i]? = some u := by simpa using hu
      rw [this] at hx'; exact (Option.some.inj hx').symm
    subst hxu
    refine ⟨_, rfl, wpAny_letOwnedTupleGo_enum (s := { s with heap := h', toks := tk + 1 }) ho fun h'' he' sb => ?_⟩
    have hT2 : h''.get? s.heap.objs.size = some { cls := .type "tuple", data := .seq #[.int i tk, x'] } := (sb.2 _ (Nat.ne_of_gt hel)).trans hT
    have new : ObjOk X.prog X.w (upd H s.heap.objs.size (.tup [.int (i : Nat), x])) h'' s.heap.objs.size (.tup [.int (i : Nat), x]) :=
      ⟨by show 2 ≤ sizeLine; decide, [.int i tk, x'], .cons ⟨_, rfl⟩ (.cons ru .nil), ⟨_, hT2, rfl, _, rfl⟩⟩
    have I1 : Inv X pins σ (upd H s.heap.objs.size (.tup [.int (i : Nat), x])) { s with heap := h'', toks := tk + 1 } :=
      I.turnedNew (ch := [e, it]) (fun b ob hb q => (sb.2 b (fun z => hb (by simp [z]))).trans (hk b ob (fun z => hb (by simp [z])) (fun z => hb (by simp [z])) q)) hf (Nat.le_refl _) new
    refine ⟨.ref s.heap.objs.size, _, I1, rfl, ⟨_, x, rfl, I.hok.fresh (Nat.le_refl _), rfl, fun ys hy => by rw [I.tuple_inj hy hq]; exact hx⟩, ⟨⟨x', ?_⟩, hst'.1.at fun o q => (sb.2 it (Ne.symm hne)).trans q, hne, hai, hea⟩, fun b hb => ?_⟩
    · have e1 : ((i + 1 : Nat) : Int) = (i : Int) + 1 := by omega
      rw [e1]; exact he'
    · have hb' : b < s.heap.objs.size := by
        have e' : b = e ∨ b = it := by simpa using hb
        rcases e' with z | z
        · rw [z]; exact hel
        · rw [z]; exact hil
      rw [upd_ne (Nat.ne_of_lt hb')]
      exact (hf b hb).1
  done := by
    intro X hP hw hK hc i pins s σ H E I hf st hg
    subst hP hw hK
    obtain ⟨⟨old, he⟩, hit, hne, hai, hea⟩ := st
    obtain ⟨xs, hq, hx⟩ := hg
    obtain ⟨its, rv, p, hz⟩ := I.tuple hq
    obtain ⟨f0, f1, f2, f3, f4, f5⟩ := hf it (by simp)
    have hl := rv.length
    have hA : X.A.in1.handled = none := I.ok.hd hc
    have tup : s.heap.IsTuple a its.toArray := by
      obtain ⟨o, ho, hcl, n, hd⟩ := p
      exact ⟨o, ho, hcl, n, hd⟩
    exact pyNext_enum_endT hA he hit tup (by simp; omega) fun h' eb => ⟨rfl, I.turned (t' := s.toks) (fun b o hb q => eb b o hb q) f0 f1 f3 f4 f5⟩
  self := fun A i s Q E st h => let ⟨⟨_, he⟩, _⟩ := st; wpAny_pyIter_enum he h
def iEnumT (K : PySem.W.Frag) (ta : TA) : TI := fun σ H R => ta σ H fun vs H1 => ∃ a xs, vs = [.ref a] ∧ SqT K H1 a xs ∧ R (Itet K a) H1
theorem pi_enumT {X : Cx} {e : Expr} {ta : TA} {p pos tpos : Pos} {elts : List Expr} {kk : Nat} (hg : Gl X "enumerate") (hm : X.mg "enumerate" = none) (ha : PA X [e] ta) (hs : starEach [e] X.env = [(false, eval e X.env)] := by rfl) :
    PI X (.Tuple elts kk tpos) (.Call (.Name "enumerate" p) [e] [] pos) (iEnumT X.K ta) := by
  refine ⟨fun pins s σ H R I h => ?_⟩
  refine Call_ (ld_blt I hg hm boot_enumerate (PyProof.Rows.callWith_type1 (thn (ha.run pos pins s σ H _ I h) fun us s1 ⟨vs, H1, I1, r1, q1⟩ => ?_) hs rfl))
  obtain ⟨a, xs, ex, hq, q⟩ := q1
  subst ex
  cases r1 with
  | cons r rr =>
    cases rr
    cases r
    obtain ⟨its, rv, p', hz⟩ := I1.tuple hq
    have tup : s1.heap.IsTuple a its.toArray := by
      obtain ⟨o, ho, hcl, n, hd⟩ := p'
      exact ⟨o, ho, hcl, n, hd⟩
    have hal : a < s1.heap.objs.size := by obtain ⟨o, ho, _⟩ := tup; exact Heap.lt_size ho
    refine enum_begins1 (begins_tuple a its.toArray) tup fun h' he hit hsz hk => wpAny_pyIter_enum he ?_
    have I2 : Inv X pins σ H1 { s1 with heap := h' } := I1.kept (t' := s1.toks) hk
    refine ⟨s1.heap.objs.size + 1, [s1.heap.objs.size + 1, s1.heap.objs.size], _, _, H1, rfl, I2, turn_enumT a (s1.heap.objs.size + 1) s1.heap.objs.size, ⟨⟨.none, he⟩, ⟨_, hit, rfl, rfl⟩, Nat.succ_ne_self _, Nat.ne_of_lt hal, fun z => ?_⟩, fun b hb => ?_, q⟩
    · have z' : s1.heap.objs.size + 1 = a := z
      exact absurd hal (by rw [← z']; exact Nat.not_lt.mpr (Nat.le_succ _))
    · have e' : b = s1.heap.objs.size + 1 ∨ b = s1.heap.objs.size := by simpa using hb
      have hle : s1.heap.objs.size ≤ b := by
        rcases e' with z | z
        · rw [z]; exact Nat.le_add_right _ _
        · rw [z]; exact Nat.le_refl _
      exact I1.fpOk hle (I1.hok.fresh hle)
def enD (ds : List D) : List D := ds.mapIdx fun i d => .tup [.int (i : Nat), d]
theorem enD_len (ds : List D) : (enD ds).length = ds.length := by unfold enD; rw [List.length_mapIdx]
theorem enD_get {ds : List D} {i : Nat} {e : D} (h : (enD ds)[i]? = some e) : ∃ d, ds[i]? = some d ∧ e = .tup [.int (i : Nat), d] := by
  unfold enD at h
  rw [List.getElem?_mapIdx] at h
  obtain ⟨d, hd, e⟩ := Option.map_eq_some_iff.mp h
  exact ⟨d, hd, e.symm⟩
theorem wi_enum {B : Bx} {τ : List Sl} {ta : TA} {P : List D → Prop} (h : WA B ta τ fun es => ∃ ds, es = [.tup ds] ∧ P (enD ds)) : WI B (iEnumT B.K ta) τ P := fun m O0 H0 A σ H hG R Q q => by
  refine h m O0 H0 A σ H hG R _ fun vs H1 es s1 r1 h1 => ?_
  obtain ⟨ds, e, p⟩ := h1
  subst e
  obtain ⟨v, ev, a, xs, ea, ha, hl⟩ := one r1
  refine ⟨a, xs, by rw [ev, ea], .inl (.inl (Er.sub _ _ ha)), q _ _ (enD ds) s1 (fun A' H' t g i => ?_) p⟩
  have ex := t.er R.mo
  have ha' : H' a = some (.tup xs) := Er.sub _ _ (ex _ _ ha)
  rw [enD_len]
  refine ⟨fun hi => ?_, fun hi => ⟨xs, .inl (.inl ha'), by rw [← hl.length]; exact hi⟩⟩
  have hx : i < xs.length := by rw [← hl.length]; exact hi
  refine ⟨⟨xs, _, .inl (.inl ha'), List.getElem?_eq_getElem hx⟩, fun x H'' y => ?_⟩
  obtain ⟨T, u, ex', hT, eH, y⟩ := y
  subst eH
  obtain ⟨d, e1, e2⟩ := hl.get' (y xs (.inl (.inl ha')))
  refine ⟨g.upd hT, .tup [.int (i : Nat), d], ?_, T, _, ex', g.at hT, _, _, rfl, rfl, _, _, rfl, Rp.mono (g.er (g.upd hT)) _ _ (Rp.mono ex _ _ e2), rfl⟩
  unfold enD
  rw [List.getElem?_mapIdx, e1]; rfl
/-! ### data in a tuple of data -/
def rInDT (K : PySem.W.Frag) : R2 := fun x y H Q => ∃ d ds, Dp K H x d ∧ Dp K H y (.tuple ds) ∧ SeqAt.shaped d = true ∧ SeqAt.shaped (.tuple ds) = true ∧ Q (.bl (ds.any fun z => PyData.eqv z d)) H
def rNotInDT (K : PySem.W.Frag) : R2 := fun x y H Q => ∃ d ds, Dp K H x d ∧ Dp K H y (.tuple ds) ∧ SeqAt.shaped d = true ∧ SeqAt.shaped (.tuple ds) = true ∧ Q (.bl (!ds.any fun z => PyData.eqv z d)) H
theorem room_inT {A : Around} {d : PyData} {ds : List PyData} (sd : SeqAt.shaped d = true) (hu : A.units + 65 < cLine) : A.in1.units + min (PyData.depthAll ds) d.depth < cLine := by
  have h1 := SeqAt.depth_of_shaped sd
  have h2 : min (PyData.depthAll ds) d.depth ≤ d.depth := Nat.min_le_right _ _
  show A.units + 1 + _ < cLine
  omega
section
variable {X : Cx}
theorem op_inDT (hu : X.A.units + 65 < cLine) : OpR X (compareOp .In) (rInDT X.K) := by
  intro pins s σ H x y v u Q I rx ry h
  obtain ⟨d, ds, hd, he, sd, se, q⟩ := h
  obtain ⟨as, r1⟩ := Dp.reads I d x v hd rx
  obtain ⟨bs, r2⟩ := Dp.reads I (.tuple ds) y u he ry
  exact SeqAt.in_tuple_reads r2 r1 (SeqAt.canLay_of_shaped se) (SeqAt.canLay_of_shaped sd) (room_inT sd hu) ⟨.bl _, H, I, rfl, q⟩
theorem op_notInDT (hu : X.A.units + 65 < cLine) : OpR X (compareOp .NotIn) (rNotInDT X.K) := by
  intro pins s σ H x y v u Q I rx ry h
  obtain ⟨d, ds, hd, he, sd, se, q⟩ := h
  obtain ⟨as, r1⟩ := Dp.reads I d x v hd rx
  obtain ⟨bs, r2⟩ := Dp.reads I (.tuple ds) y u he ry
  exact SeqAt.notIn_tuple_reads r2 r1 (SeqAt.canLay_of_shaped se) (SeqAt.canLay_of_shaped sd) (room_inT sd hu) ⟨.bl _, H, I, rfl, q⟩
theorem hu_of2 {A : Around} {k : Nat} (hr : Room k A) : A.units + 65 < cLine := by have := hr.un; omega
end
section
variable {B : Bx} {P : D → Prop}
theorem od_niDT {x : D} {ds : List D} (hx : x.shp) (hy : (D.tup ds).shp) (p : P (.bl (!(D.pyL ds).any fun z => PyData.eqv z x.py))) : OpD B (rNotInDT B.K) x (.tup ds) P := fun m O H v w gd rv rw Q q =>
  ⟨x.py, D.pyL ds, dp_of Er.sub _ _ hx.1 rv, dp_of Er.sub (D.tup ds) _ hy.1 rw, hx.2, hy.2, q _ H (.bl _) gd.refl rfl p⟩
end
end K15
/-! the module's dict PARTS; replace behind a test that gives a token out. -/
namespace K15
open PySem PySem.Spec PyProof.Rows L2
open Evl (Ex ex_rd ex_l ex_t)
open CwR
set_option autoImplicit false
def findP (z : Str) : List (Str × Int) → D
  | [] => .non
  | p :: r => if z = p.1 then .int p.2 else findP z r
theorem findP_parts (z : Str) : findP z partsL = partsD z := rfl
theorem find_parts {z : Str} : ∀ {es : List DictEntry} {ps : List (Str × Int)}, Paired EntOk es ps → ∃ u, RelV (findP z ps).v u ∧ ((es.find? fun e => Value.isStrOf z e.key).map (·.val)).getD .none = u
  | _, _, .nil => ⟨.none, rfl, rfl⟩
  | e :: es, p :: ps, .cons h t => by
    obtain ⟨⟨t1, ek⟩, t2, ev⟩ := h
    rw [List.find?_cons, ek]
    by_cases hz : z = p.1
    · have hb : Value.isStrOf z (.str p.1 t1) = true := by rw [hz]; simp [Value.isStrOf]
      rw [hb]
      unfold findP
      rw [if_pos hz]
      exact ⟨e.val, ⟨t2, ev⟩, rfl⟩
    · have hb : Value.isStrOf z (.str p.1 t1) = false := by simp [Value.isStrOf]; exact fun q => hz q.symm
      rw [hb]
      unfold findP
      rw [if_neg hz]
      exact find_parts t
/-- PARTS.get(e) -/
def tParts (te : TE) : TE := fun σ H Q => te σ H fun y H1 => ∃ z, y = .str z ∧ Q (partsD z).v H1
section
variable {X : Cx} {e : Expr} {te : TE} {p apos cpos : Pos}
theorem pe_parts (hu : X.A.units + 1 < cLine) (T : Parts X.K X.w X.mg) (he : PE X e te) (m : M1 X (.Name "PARTS" p) "get" apos e cpos := by exact ⟨rfl, rfl, rfl, rfl⟩) (hg : Gl X "PARTS" := by rfl) : PE X (.Call (.Attribute (.Name "PARTS" p) "get" apos) [e] [] cpos) (tParts te) := by
  obtain ⟨d, es, n, hm, hl, hk, lo, hp⟩ := T.ex
  refine ⟨fun pins s σ H Q I h => ?_⟩
  have M := PySem.W.mapOf_K (prog := X.prog) (w := X.w) I.kIn hl hk
  refine wpAny_Call_method m.base m.few m.line PySem.F.plainAttrs_dict PySem.F.slot_dict_get PySem.F.type_dict_get (ld_glob I hg hm ?_)
  refine ⟨M.typeIs, M.noDict, ?_⟩
  rw [m.trees]
  refine Calls.callWith_builtin rfl (Calls.evalArgs_plain (Calls.spliced_cons (thn (he.run pins s σ H _ I h) fun iv s2 ⟨y, H2, I2, ry, z, ez, q2⟩ => Calls.spliced_nil ?_)))
  subst ez
  obtain ⟨t, rfl⟩ := ry
  have M2 := PySem.W.mapOf_K (prog := X.prog) (w := X.w) I2.kIn hl hk
  refine call_meetsIn PySem.F.slot_dict_get M2.typeIs PySem.F.entry_dict_get (PySem.F.args_dict_get_2 _ _) (meets_dict_get (strKind X.prog X.w) d (strKind_is X.prog X.w z t) lo) ⟨_, M2, ?_⟩
  obtain ⟨u, ru, eu⟩ := find_parts (z := z) hp
  have e2 : ((findBy Value.isStrOf es z).getD .none) = u := by
    unfold findBy
    obtain ⟨l⟩ := es
    rw [← eu]
    simp
  exact ⟨_, H2, I2.tok _, by rw [e2]; exact ru, q2⟩
end
theorem parts_found : partsD "found" = .int 2 := by unfold partsD; simp (config := { decide := true }) only [if_true, if_false]
theorem parts_say : partsD "say" = .int 1 := by unfold partsD; simp (config := { decide := true }) only [if_true, if_false]
theorem parts_reply : partsD "reply" = .int 2 := by unfold partsD; simp (config := { decide := true }) only [if_true, if_false]
theorem parts_edit : partsD "edit" = .int 2 := by unfold partsD; simp (config := { decide := true }) only [if_true, if_false]
theorem parts_recall : partsD "recall" = .int 1 := by unfold partsD; simp (config := { decide := true }) only [if_true, if_false]
theorem parts_mark : partsD "mark" = .int 2 := by unfold partsD; simp (config := { decide := true }) only [if_true, if_false]
theorem parts_title : partsD "title" = .int 1 := by unfold partsD; simp (config := { decide := true }) only [if_true, if_false]
theorem parts_add : partsD "add" = .int 1 := by unfold partsD; simp (config := { decide := true }) only [if_true, if_false]
theorem parts_cut : partsD "cut" = .int 1 := by unfold partsD; simp (config := { decide := true }) only [if_true, if_false]
theorem parts_hand : partsD "hand" = .int 1 := by unfold partsD; simp (config := { decide := true }) only [if_true, if_false]
theorem parts_seen : partsD "seen" = .int 0 := by unfold partsD; simp (config := { decide := true }) only [if_true, if_false]
theorem kinds_of {k : Str} {n : Nat} (h : partsD k = .int n) : (n = 0 ∧ k = "seen") ∨ (n = 1 ∧ (k = "say" ∨ k = "recall" ∨ k = "title" ∨ k = "add" ∨ k = "cut" ∨ k = "hand")) ∨ (n = 2 ∧ (k = "found" ∨ k = "reply" ∨ k = "edit" ∨ k = "mark")) := by
  unfold partsD at h
  repeat' split at h
  all_goals cases h
  all_goals first
    | exact .inl ⟨rfl, by assumption⟩
    | exact .inr (.inl ⟨rfl, by first | exact .inl (by assumption) | exact .inr (.inl (by assumption)) | exact .inr (.inr (.inl (by assumption))) | exact .inr (.inr (.inr (.inl (by assumption)))) | exact .inr (.inr (.inr (.inr (.inl (by assumption))))) | exact .inr (.inr (.inr (.inr (.inr (by assumption)))))⟩)
    | exact .inr (.inr ⟨rfl, by first | exact .inl (by assumption) | exact .inr (.inl (by assumption)) | exact .inr (.inr (.inl (by assumption))) | exact .inr (.inr (.inr (by assumption)))⟩)
theorem isBodyD_len {k : Str} {r : List D} (h : ¬ partsD k = .int (r.length : Nat)) : isBodyD (.tup (.str k :: r)) = false := by
  by_cases k0 : k = "found"
  · subst k0
    match r, h with
    | [], _ => rfl
    | [_], _ => rfl
    | [_, _], h => exact absurd parts_found h
    | _ :: _ :: _ :: _, _ => rfl
  by_cases k1 : k = "say"
  · subst k1
    match r, h with
    | [], _ => rfl
    | [_], h => exact absurd parts_say h
    | _ :: _ :: _, _ => rfl
  by_cases k2 : k = "reply"
  · subst k2
    match r, h with
    | [], _ => rfl
    | [_], _ => rfl
    | [_, _], h => exact absurd parts_reply h
    | _ :: _ :: _ :: _, _ => rfl
  by_cases k3 : k = "edit"
  · subst k3
    match r, h with
    | [], _ => rfl
    | [_], _ => rfl
    | [_, _], h => exact absurd parts_edit h
    | _ :: _ :: _ :: _, _ => rfl
  by_cases k4 : k = "recall"
  · subst k4
    match r, h with
    | [], _ => rfl
    | [_], h => exact absurd parts_recall h
    | _ :: _ :: _, _ => rfl
  by_cases k5 : k = "mark"
  · subst k5
    match r, h with
    | [], _ => rfl
    | [_], _ => rfl
    | [_, _], h => exact absurd parts_mark h
    | _ :: _ :: _ :: _, _ => rfl
  by_cases k6 : k = "title"
  · subst k6
    match r, h with
    | [], _ => rfl
    | [_], h => exact absurd parts_title h
    | _ :: _ :: _, _ => rfl
  by_cases k7 : k = "add"
  · subst k7
    match r, h with
    | [], _ => rfl
    | [_], h => exact absurd parts_add h
    | _ :: _ :: _, _ => rfl
  by_cases k8 : k = "cut"
  · subst k8
    match r, h with
    | [], _ => rfl
    | [_], h => exact absurd parts_cut h
    | _ :: _ :: _, _ => rfl
  by_cases k9 : k = "hand"
  · subst k9
    match r, h with
    | [], _ => rfl
    | [_], h => exact absurd parts_hand h
    | _ :: _ :: _, _ => rfl
  by_cases k10 : k = "seen"
  · subst k10
    match r, h with
    | [], h => exact absurd parts_seen h
    | _ :: _, _ => rfl
  unfold isBodyD
  simp only [k0, k1, k2, k3, k4, k5, k6, k7, k8, k9, k10, if_false]
theorem partsD_int (k : Str) : (∃ n : Nat, partsD k = .int n) ∨ partsD k = .non := by
  unfold partsD
  repeat' split
  all_goals first
    | exact .inl ⟨2, rfl⟩
    | exact .inl ⟨1, rfl⟩
    | exact .inl ⟨0, rfl⟩
    | exact .inr rfl
theorem od_neP {B : Bx} {P : D → Prop} {x : D} {j k : Int} (e : x = .int j) (p : P (.bl (!decide (j = k)))) : OpD B rNe x (.int k) P := by rw [e]; exact od_neI p
theorem partsD_flat (z : Str) : Flat (partsD z) := by
  unfold partsD
  repeat' split
  all_goals exact ⟨_, rfl⟩
theorem wp_parts {B : Bx} {τ : List Sl} {te : TE} {P : D → Prop} (h : WP B te τ fun d => ∃ z, d = .str z ∧ P (partsD z)) : WP B (tParts te) τ P := fun m O0 H0 A σ H hG R Q q => by
  refine h m O0 H0 A σ H hG R _ fun v H1 d s1 r1 h1 => ?_
  obtain ⟨z, e, p⟩ := h1
  subst e
  exact ⟨z, r1, q _ H1 (partsD z) s1 (partsD_flat z).rp p⟩
/-! ### a test behind which a token is out -/
/-- .. when its answer is no -/
def PTf (X : Cx) (e : Expr) (t : TT) (b0 : Bool) : Prop := ∀ (pins : List (Addr × Obj)) (s : Shared) (σ : L2.St) (H : Hp) (Q : Bool → Hp → Prop), Inv X pins σ H s → t σ H Q →
  wpAny (model X.prog X.w) X.A (isTrue e X.env (eval e X.env)) (fun b s' => (b = b0 → 1 ≤ s'.toks) ∧ TP X pins σ Q b s') X.xe s
def PWf (X : Cx) (e : Expr) (t : TT) (b0 : Bool) : Prop := ∀ (whole : Sem Value) (pins : List (Addr × Obj)) (s : Shared) (σ : L2.St) (H : Hp) (Q : Bool → Hp → Prop), Inv X pins σ H s → t σ H Q →
  wpAny (model X.prog X.w) X.A (isTrue e X.env whole) (fun b s' => (b = b0 → 1 ≤ s'.toks) ∧ TP X pins σ Q b s') X.xe s
section
variable {X : Cx} {a b c e : Expr} {ta tb tc : TE} {tA tB' tu : TT} {pos p1 : Pos} {op op' : CmpOp} {r r' : R2} {i : Int} {j : Nat} {b0 : Bool} {rest : List Expr}
theorem ptf_chain (ho : OpR X (compareOp op) r) (ho' : OpR X (compareOp op') r') (hb : PE X b tb) (hc : PE X c tc)
    (hm : lastMarks [op, op'] [b, c] = false := by with_unfolding_all rfl) : PTf X (.Compare (.Constant (.int i) j p1) [op, op'] [b, c] pos) (tTest (tChain r r' (tC (.int i)) tb tc)) b0 := by
  intro pins s σ H Q I h
  refine isTrue_chain (wpAny_Constant_int ?_) hm
  refine wpAny_mono (PySem.wpAny_toks_of (n := 1) (by show 1 ≤ s.toks + 1; omega) (Q := TP X pins σ Q) (E := X.xe) ?_) (fun b s' q => ⟨fun _ => q.1, q.2⟩) fun _ _ q => q.2
  have I1 : Inv X pins σ H { s with toks := s.toks + 1 } := I.tok _
  refine test_link (thn (hb.run pins _ σ H _ I1 h) fun u s2 ⟨y, H2, I2, r2, q2⟩ =>
    thn (ho pins s2 σ H2 (.int i) y _ u _ I2 ⟨_, rfl⟩ r2 q2) fun d s3 ⟨z, H3, I3, r3, k, e, q3⟩ => ?_)
  subst e
  cases r3
  refine wpAny_truthy_bool ?_
  cases k with
  | false =>
    obtain ⟨k', e', q'⟩ := q3
    cases e'
    exact ite_ff ⟨H3, I3, q'⟩
  | true =>
    refine ite_tt (test_last (thn (hc.run pins s3 σ H3 _ I3 q3) fun w' s4 ⟨z', H4, I4, r4, q4⟩ => thn (ho' pins s4 σ H4 y z' u w' _ I4 r2 r4 q4) fun d' s5 ⟨z2, H5, I5, r5, k2, e2, q5⟩ => ?_))
    subst e2
    cases r5
    exact wpAny_truthy_bool ⟨H5, I5, q5⟩
theorem ptf_not (h : PTf X a tA (!b0)) : PTf X (.UnaryOp .Not a pos) (tNot tA) b0 := by
  intro pins s σ H Q I q
  refine isTrue_not (wpAny_mono (h pins s σ H (fun c H1 => Q (!c) H1) I q) (fun b s' z => ⟨fun e => z.1 (by rw [← e, Bool.not_not]), z.2⟩) fun _ _ z => z)
theorem pwf_or1 (h : PTf X a tA false) : PWf X (.BoolOp .Or [a] pos) tA false := by
  intro wh pins s σ H Q I q
  refine isTrue_or (wpAny_mono (h pins s σ H Q I q) (fun c s1 e => ?_) fun _ _ z => z)
  cases c with
  | false => exact isTrue_or_nil e
  | true => exact e
theorem pwf_or (ha : PT X a tA) (hb : PWf X (.BoolOp .Or (b :: rest) pos) tB' false) : PWf X (.BoolOp .Or (a :: b :: rest) pos) (tOr tA tB') false := by
  intro wh pins s σ H Q I h
  refine isTrue_or (thn (ha.run pins s σ H _ I h) fun c s1 ⟨H1, I1, q1⟩ => ?_)
  cases c with
  | true => exact ⟨fun z => Bool.noConfusion z, H1, I1, q1⟩
  | false => exact hb wh pins s1 σ H1 Q I1 q1
theorem PWf.pt (h : PWf X e tA b0) : PTf X e tA b0 := h _
/-- if t: (left here), then the rest with a token out -/
def tIfT (tt : TT) (tb tu : TS) : TS := fun D σ H => tt σ H fun b H1 => if b = true then tb { D with nx := fun _ _ => False } σ H1 else tu D σ H1
theorem pss_ifT {st : List Stmt} {sts : List Stmt} {t u : TS} (hc : PTf X a tA false) (hb : PSs X st t) (hr : PSsT X sts u) : PSs X (.If a st [] pos :: sts) (tIfT tA t u) := by
  refine ⟨fun pins s σ H D I h => ?_⟩
  refine wpAny_execs_cons (wpAny_If (wpAny_mono (hc pins s σ H _ I h) (fun d s1 ⟨k, H1, I1, q1⟩ => ?_) fun _ _ z => z))
  cases d with
  | true =>
    refine thn (hb.run pins s1 σ H1 _ I1 q1) fun f s2 q => ?_
    cases f with
    | next => obtain ⟨σ', H', I', q⟩ := q; exact q.elim
    | ret v => exact q
    | brk => exact q
    | cont => exact q
  | false => exact wpAny_execs_nil (hr pins s1 σ H1 D (k rfl) I1 q1)
variable {CX : CXT} {k : Nat} {ps : List Str} {sp : Sp} {E : XK} {x : Str} {p : Pos} {es : List Expr} {t : TA}
theorem pet_cal (F : CallOk X.prog X.w X.K X.mg X.base CX k x ps sp) (hr : Room k X.A) (hx : Passes CX X E) (ha : PAT X (e :: es) t) (hg : Gl X x := by rfl) (hdb : (x == ("__debug__" : Str)) = false := by decide)
    (he : starEach (e :: es) X.env = (false, eval e X.env) :: starEach es X.env := by rfl) (hpl : (backTo pos (starEach es X.env)).any (·.1) = false := by rfl) :
    PET X (.Call (.Name x p) (e :: es) [] pos) (tCall sp [] E t) := by
  obtain ⟨f, fd, F, g, kp, b⟩ := F
  intro pins s σ H Q h0 I h
  refine wpAny_Call_Name_kw (ld_glob I hg g ?_ hdb)
  refine PySem.W.callWith_K (h₀ := X.base) I.ok.mod.kin kp (thn (ha pos pins s σ H _ h0 I h) fun us s1 ⟨vs, H1, I1, r, q⟩ => ⟨I1.kIn, ?_⟩) he hpl
  exact run_fn F hr b .nil hx I1 r q
end
section
variable {B : Bx} {τ : List Sl} {tt : TT} {t u : TS} {Rt : D → Prop} {N Bk Ct : List Sl → Prop} {te : TE} {P : D → Prop}
theorem ws_ifT (h : WT B tt τ fun b => (b = true → WS B t τ Rt NoS Bk Ct) ∧ (b = false → WS B u τ Rt N Bk Ct)) : WS B (tIfT tt t u) τ Rt N Bk Ct := fun m O0 H0 A σ H hG R Dd rt nx bk ct =>
  h m O0 H0 A σ H hG R _ fun b H1 s1 h1 => by
    have tr : Tr m A H A H1 := .of s1
    cases b with
    | true => exact h1.1 rfl m O0 H0 A σ H1 hG (R.step s1) _ rt (fun A2 σ2 H2 τ2 tr2 R2 z => z) (fun A2 σ2 H2 τ2 tr2 => bk A2 σ2 H2 τ2 (tr.trans tr2)) (fun A2 σ2 H2 τ2 tr2 => ct A2 σ2 H2 τ2 (tr.trans tr2))
    | false => exact h1.2 rfl m O0 H0 A σ H1 hG (R.step s1) Dd rt (fun A2 σ2 H2 τ2 tr2 => nx A2 σ2 H2 τ2 (tr.trans tr2)) (fun A2 σ2 H2 τ2 tr2 => bk A2 σ2 H2 τ2 (tr.trans tr2)) (fun A2 σ2 H2 τ2 tr2 => ct A2 σ2 H2 τ2 (tr.trans tr2))
theorem wp_repl {y z : Str} (h : WP B te τ fun d => ∃ x, d = .str x ∧ x.length + (x.length + 1) * z.length ≤ 16777216 ∧ P (.str (Txt.replace x y z))) : WP B (tReplC te y z) τ P := fun m O0 H0 A σ H hG R Q q => by
  refine h m O0 H0 A σ H hG R _ fun v H1 d s1 r1 h1 => ?_
  obtain ⟨x, e, hl, p⟩ := h1
  subst e
  exact ⟨x, r1, hl, q _ H1 (.str _) s1 rfl p⟩
end
theorem atI_zero {α : Type} {d : α} {ds : List α} : atI (d :: ds) 0 = some d := atI_nat (j := 0) rfl
section
variable {B : Bx} {P : D → Prop}
theorem od_ixT0 {d : D} {ds : List D} (p : P d) : OpD B (rIxT B.K) (.tup (d :: ds)) (.int 0) P := od_ixT atI_zero p
theorem od_ixL0 {d : D} {ds : List D} (p : P d) : OpD B (rIxL B.K) (.lst (d :: ds)) (.int 0) P := od_ixL atI_zero p
end
theorem ws_ifF {B : Bx} {τ : List Sl} {tt : TT} {t u : TS} {Rt : D → Prop} {N Bk Ct : List Sl → Prop} (h : WT B tt (frz τ) fun b => (b = true → WS B t τ Rt N Bk Ct) ∧ (b = false → WS B u τ Rt N Bk Ct)) : WS B (tIfS tt t u) τ Rt N Bk Ct := ws_if (wt_frz h)
/-! ### gates -/
section
variable {B : Bx} {τ : List Sl} {P : D → Prop} {Pb : Bool → Prop} {Pl : List D → Prop} {Po : Option Int → Prop} {Ps : List Sl → Prop} {te : TE} {tt : TT} {ta : TA} {to : TO} {wi : TI} {g : TG} {gs : TGs} {ts : TS} {r : R2} {x y : D} {xs : List D} {N Bk Ct : List Sl → Prop} {rc : List V → Hp → VK → Prop} {rm : V → List V → Hp → VK → Prop}
theorem g_WS (h : WS B ts τ P N Bk Ct) : WS B ts τ P N Bk Ct := h
theorem g_WP (h : WP B te τ P) : WP B te τ P := h
theorem g_WT (h : WT B tt τ Pb) : WT B tt τ Pb := h
theorem g_WA (h : WA B ta τ Pl) : WA B ta τ Pl := h
theorem g_WO (h : WO B to τ Po) : WO B to τ Po := h
theorem g_WI (h : WI B wi τ Pl) : WI B wi τ Pl := h
theorem g_WG (h : WG B g x τ Ps) : WG B g x τ Ps := h
theorem g_WGs (h : WGs B gs xs τ Ps) : WGs B gs xs τ Ps := h
theorem g_OpD (h : OpD B r x y P) : OpD B r x y P := h
theorem g_CallD (h : CallD B rc xs P) : CallD B rc xs P := h
theorem g_MtD (h : MtD B rm x xs P) : MtD B rm x xs P := h
theorem g_And {a b : Prop} (h : a ∧ b) : a ∧ b := h
theorem g_Ex {α : Type} {p : α → Prop} (h : ∃ x, p x) : ∃ x, p x := h
theorem if_nF {c : Bool} {A B : Prop} (e : c = false) (h : A) : ((!c) = true → A) ∧ ((!c) = false → B) := by rw [e]; exact if_t h
theorem if_nT {c : Bool} {A B : Prop} (e : c = true) (h : B) : ((!c) = true → A) ∧ ((!c) = false → B) := by rw [e]; exact if_f h
end
/-! ### shapes of promises -/
def Fn0 (p : (D → Prop) → Prop) : Fn := fun ds P => ds = [] ∧ p P
def Fn1 (p : D → (D → Prop) → Prop) : Fn := fun ds P => ∃ d, ds = [d] ∧ p d P
def Fn2 (p : D → D → (D → Prop) → Prop) : Fn := fun ds P => ∃ d e, ds = [d, e] ∧ p d e P
def Fn3 (p : D → D → D → (D → Prop) → Prop) : Fn := fun ds P => ∃ d e f, ds = [d, e, f] ∧ p d e f P
def Fn4 (p : D → D → D → D → (D → Prop) → Prop) : Fn := fun ds P => ∃ d e f g, ds = [d, e, f, g] ∧ p d e f g P
def FnX1 (p : D → (D → Prop) → Prop → Prop) : FnX := fun ds P PE => ∃ d, ds = [d] ∧ p d P PE
def FnX2 (p : D → D → (D → Prop) → Prop → Prop) : FnX := fun ds P PE => ∃ d e, ds = [d, e] ∧ p d e P PE
section
variable {P : D → Prop} {d e f g : D}
theorem Fn0.mk {p : (D → Prop) → Prop} (h : p P) : Fn0 p [] P := ⟨rfl, h⟩
theorem Fn1.mk {p : D → (D → Prop) → Prop} (h : p d P) : Fn1 p [d] P := ⟨d, rfl, h⟩
theorem Fn2.mk {p : D → D → (D → Prop) → Prop} (h : p d e P) : Fn2 p [d, e] P := ⟨d, e, rfl, h⟩
theorem Fn3.mk {p : D → D → D → (D → Prop) → Prop} (h : p d e f P) : Fn3 p [d, e, f] P := ⟨d, e, f, rfl, h⟩
theorem Fn4.mk {p : D → D → D → D → (D → Prop) → Prop} (h : p d e f g P) : Fn4 p [d, e, f, g] P := ⟨d, e, f, g, rfl, h⟩
end
theorem Fn0.len {p : (D → Prop) → Prop} : ∀ ds P, Fn0 p ds P → ds.length = 0 := fun ds P ⟨e, _⟩ => by rw [e]; rfl
theorem Fn1.len {p : D → (D → Prop) → Prop} : ∀ ds P, Fn1 p ds P → ds.length = 1 := fun ds P ⟨d, e, _⟩ => by rw [e]; rfl
theorem Fn2.len {p : D → D → (D → Prop) → Prop} : ∀ ds P, Fn2 p ds P → ds.length = 2 := fun ds P ⟨d, _, e, _⟩ => by rw [e]; rfl
theorem Fn3.len {p : D → D → D → (D → Prop) → Prop} : ∀ ds P, Fn3 p ds P → ds.length = 3 := fun ds P ⟨d, _, _, e, _⟩ => by rw [e]; rfl
theorem Fn4.len {p : D → D → D → D → (D → Prop) → Prop} : ∀ ds P, Fn4 p ds P → ds.length = 4 := fun ds P ⟨d, _, _, _, e, _⟩ => by rw [e]; rfl
theorem FnX1.len {p : D → (D → Prop) → Prop → Prop} : ∀ ds P PE, FnX1 p ds P PE → ds.length = 1 := fun ds P PE ⟨d, e, _⟩ => by rw [e]; rfl
theorem FnX2.len {p : D → D → (D → Prop) → Prop → Prop} : ∀ ds P PE, FnX2 p ds P PE → ds.length = 2 := fun ds P PE ⟨d, _, e, _⟩ => by rw [e]; rfl
abbrev fD (g : D → Bool) : Fn := Fn1 fun d P => Sm d ∧ P (.bl (g d))
abbrev fIsPlain : Fn := Fn1 fun d P => ∃ x, d = .str x ∧ x.length ≤ 50000 ∧ P (.bl (plainL (TL.tl x)))
/-- what replacing newlines by nothing leaves -/
theorem repl_nl (x : Str) : TL.tl (Txt.replace x (Str.ofString "\n") (Str.ofString "")) = (TL.tl x).filter fun c => !decide (c = 10) := by
  have h := PyProof.Rows.replace_strikes x 10
  have e1 : (⟨#[10]⟩ : Str) = Str.ofString "\n" := rfl
  have e2 : (⟨#[]⟩ : Str) = Str.ofString "" := rfl
  rw [← e1, ← e2]
  show (Txt.replace x ⟨#[10]⟩ ⟨#[]⟩).cps.toList = _
  rw [h]
  exact List.filter_congr fun c _ => by by_cases hc : c = 10 <;> simp [hc]
end K15
/-! dicts with texts as keys, sorted, own lists made by + or a display, raise. -/
namespace K15
open PySem PySem.Spec PyProof.Rows L2
open Evl (Ex ex_rd ex_l ex_t)
set_option autoImplicit false
abbrev KVs := List (Str × D)
abbrev dctP (kvs : KVs) : D := .dct (kvs.map Prod.fst) (kvs.map Prod.snd)
abbrev owndP (kvs : KVs) : Sl := .ownd (kvs.map Prod.fst) (kvs.map Prod.snd)
def getP : KVs → Str → Option D
  | [], _ => none
  | p :: r, k => if p.1 = k then some p.2 else getP r k
def putP (kvs : KVs) (k : Str) (d : D) : KVs := if (kvs.any fun p => decide (p.1 = k)) = true then kvs.map (fun p => if p.1 = k then (p.1, d) else p) else kvs ++ [(k, d)]
abbrev zipV (kvs : KVs) (xs : List V) : List (Key × V) := ((kvs.map Prod.fst).map Sum.inr).zip xs
section
variable {K : PySem.W.Frag} {C : Addr} {H : Hp}
theorem get_rel {k : Str} : ∀ {kvs : KVs} {xs : List V}, RpL K C H (kvs.map Prod.snd) xs → (getP kvs k = none → valV (zipV kvs xs) (.inr k) = none) ∧ ∀ d, getP kvs k = some d → ∃ v, valV (zipV kvs xs) (.inr k) = some v ∧ Rp K C H d v
  | [], xs, h => ⟨fun _ => rfl, fun d e => by cases e⟩
  | (j, d) :: r, xs, h => by
    obtain ⟨v, vs, e, h1, h2⟩ := h
    subst e
    have ih := get_rel (k := k) (kvs := r) h2
    show ((if j = k then some d else getP r k) = none → valV ((Sum.inr j, v) :: zipV r vs) (.inr k) = none) ∧ ∀ d', (if j = k then some d else getP r k) = some d' → ∃ u, valV ((Sum.inr j, v) :: zipV r vs) (.inr k) = some u ∧ Rp K C H d' u
    by_cases e : j = k
    · subst e
      rw [valV_pos rfl]
      rw [if_pos rfl]
      exact ⟨fun z => (by cases z), fun d' z => (by cases z; exact ⟨v, rfl, h1⟩)⟩
    · rw [valV_neg (by simpa using e)]
      rw [if_neg e]
      exact ih
theorem zipV_flat (kvs : KVs) : zipV kvs ((kvs.map Prod.snd).map D.v) = kvs.map fun p => (Sum.inr p.1, p.2.v) := by
  induction kvs with
  | nil => rfl
  | cons p r ih => show (_, _) :: zipV r _ = _; rw [ih]; rfl
theorem put_flat (kvs : KVs) (k : Str) (d : D) : putK (kvs.map fun p => ((Sum.inr p.1 : Key), p.2.v)) (.inr k) d.v = (putP kvs k d).map fun p => (Sum.inr p.1, p.2.v) := by
  unfold putK putP
  have e : ((kvs.map fun p => ((Sum.inr p.1 : Key), p.2.v)).any fun kv => decide (kv.1 = Sum.inr k)) = kvs.any fun p => decide (p.1 = k) := by
    rw [List.any_map]; congr 1; funext p; simp
  rw [e]
  split
  · rw [List.map_map, List.map_map]
    refine List.map_congr_left fun p _ => ?_
    by_cases h : p.1 = k <;> simp [h]
  · rw [List.map_append]; rfl
end
theorem mergeK_ap : ∀ (more kvs : List (Key × V)), ((kvs ++ more).map Prod.fst).Nodup → mergeK kvs more = kvs ++ more
  | [], kvs, _ => by rw [List.append_nil]; rfl
  | p :: r, kvs, h => by
    have hn : valV kvs p.1 = none := by
      have : ∀ q ∈ kvs, q.1 ≠ p.1 := fun q hq e => by
        rw [List.map_append, List.nodup_append] at h
        exact h.2.2 q.1 (List.mem_map_of_mem hq) p.1 (by simp) e
      induction kvs with
      | nil => rfl
      | cons q s ih =>
        rw [valV_neg (this q List.mem_cons_self)]
        refine ih ?_ fun x hx => this x (List.mem_cons_of_mem _ hx)
        simp only [List.cons_append, List.map_cons, List.nodup_cons] at h
        exact h.2
    show mergeK (putK kvs p.1 p.2) r = _
    rw [putK_new p.2 hn, mergeK_ap r _ (by rw [List.append_assoc]; exact h), List.append_assoc]; rfl
section
variable {B : Bx} {τ : List Sl} {P : D → Prop} {te ta tb td ty tx tv : TE} {tr : TA} {Rt : D → Prop} {N Bk Ct : List Sl → Prop}
theorem dget_of {m : Option Addr} {O : List Addr} {H : Hp} {kvs : KVs} {v : V} {k : Str} (r : B.rp (Er O H) (dctP kvs) v) : ∃ a o, v = .ref a ∧ IsD H a ∧ DGet H a (.str k) o ∧ (getP kvs k = none → o = none) ∧ ∀ d, getP kvs k = some d → ∃ u, o = some u ∧ B.rp (Er O H) d u := by
  obtain ⟨a, xs, e, hd, hl, _⟩ := r
  obtain ⟨g1, g2⟩ := get_rel (k := k) hl
  exact ⟨a, valV (zipV kvs xs) (.inr k), e, .inl ⟨_, ex_rd Er.sub hd⟩, .inl ⟨_, .inr k, ex_rd Er.sub hd, rfl, rfl⟩, g1, g2⟩
theorem wp_dget2 (h : WP B td τ fun d => ∃ kvs, d = dctP kvs ∧ WP B ty τ fun y => ∃ k, y = .str k ∧ WP B tx τ fun z => P ((getP kvs k).getD z)) : WP B (tDGet2 td ty tx) τ P := fun m O0 H0 A σ H hG R Q q => by
  refine h m O0 H0 A σ H hG R _ fun v H1 d s1 r1 h1 => ?_
  obtain ⟨kvs, e, h1⟩ := h1
  subst e
  have R1 := R.step s1
  obtain ⟨a, _, ev, hI, _, _, _⟩ := dget_of (B := B) (m := m) (k := Str.empty) r1
  refine ⟨a, ev, hI, h1 m O0 H0 A σ H1 hG R1 _ fun y H2 dy s2 r2 h2 => ?_⟩
  obtain ⟨k, ey, h2⟩ := h2
  subst ey
  have R2 := R1.step s2
  refine h2 m O0 H0 A σ H2 hG R2 _ fun z H3 dz s3 r3 p => ?_
  obtain ⟨a', o, ev', _, g, gn, gs⟩ := dget_of (B := B) (m := m) (k := k) (Rp.mono (R2.gd.er s3) _ _ (Rp.mono (R1.gd.er s2) _ _ r1))
  rw [ev] at ev'; cases ev'
  have eyv : y = .str k := r2
  refine ⟨o, by rw [eyv]; exact g, ?_⟩
  have st := (s1.trans s2).trans s3
  cases e : getP kvs k with
  | none => rw [gn e]; rw [e] at p; exact q z H3 dz st r3 p
  | some d =>
    obtain ⟨u, eo, ru⟩ := gs d e
    rw [eo]; rw [e] at p; exact q u H3 d st ru p
theorem wp_dget1 (h : WP B td τ fun d => ∃ kvs, d = dctP kvs ∧ WP B ty τ fun y => ∃ k, y = .str k ∧ P ((getP kvs k).getD .non)) : WP B (tDGet1 td ty) τ P := fun m O0 H0 A σ H hG R Q q => by
  refine h m O0 H0 A σ H hG R _ fun v H1 d s1 r1 h1 => ?_
  obtain ⟨kvs, e, h1⟩ := h1
  subst e
  have R1 := R.step s1
  obtain ⟨a, _, ev, hI, _, _, _⟩ := dget_of (B := B) (m := m) (k := Str.empty) r1
  refine ⟨a, ev, hI, h1 m O0 H0 A σ H1 hG R1 _ fun y H2 dy s2 r2 h2 => ?_⟩
  obtain ⟨k, ey, p⟩ := h2
  subst ey
  obtain ⟨a', o, ev', _, g, gn, gs⟩ := dget_of (B := B) (m := m) (k := k) (Rp.mono (R1.gd.er s2) _ _ r1)
  rw [ev] at ev'; cases ev'
  have eyv : y = .str k := r2
  refine ⟨o, by rw [eyv]; exact g, ?_⟩
  have st := s1.trans s2
  cases e : getP kvs k with
  | none => rw [gn e]; rw [e] at p; exact q .non H2 .non st rfl p
  | some d =>
    obtain ⟨u, eo, ru⟩ := gs d e
    rw [eo]; rw [e] at p; exact q u H2 d st ru p
theorem wp_dget (h : WP B td τ fun d => ∃ kvs, d = dctP kvs ∧ WP B ty τ fun y => ∃ k x, y = .str k ∧ getP kvs k = some x ∧ P x) : WP B (tDGet td ty) τ P := fun m O0 H0 A σ H hG R Q q => by
  refine h m O0 H0 A σ H hG R _ fun v H1 d s1 r1 h1 => ?_
  obtain ⟨kvs, e, h1⟩ := h1
  subst e
  have R1 := R.step s1
  refine h1 m O0 H0 A σ H1 hG R1 _ fun y H2 dy s2 r2 h2 => ?_
  obtain ⟨k, x, ey, ex, p⟩ := h2
  subst ey
  obtain ⟨a, o, ev, _, g, gn, gs⟩ := dget_of (B := B) (m := m) (k := k) (Rp.mono (R1.gd.er s2) _ _ r1)
  obtain ⟨u, eo, ru⟩ := gs x ex
  have eyv : y = .str k := r2
  exact ⟨a, u, ev, by rw [eyv, ← eo]; exact g, q u H2 x (s1.trans s2) ru p⟩
theorem wp_din (h : WP B ty τ fun y => ∃ k, y = .str k ∧ WP B td τ fun d => ∃ kvs, d = dctP kvs ∧ P (.bl (getP kvs k).isSome)) : WP B (tDIn ty td) τ P := fun m O0 H0 A σ H hG R Q q => by
  refine h m O0 H0 A σ H hG R _ fun y H1 dy s1 r1 h1 => ?_
  obtain ⟨k, ey, h1⟩ := h1
  subst ey
  have R1 := R.step s1
  refine h1 m O0 H0 A σ H1 hG R1 _ fun v H2 d s2 r2 h2 => ?_
  obtain ⟨kvs, e, p⟩ := h2
  subst e
  obtain ⟨a, o, ev, _, g, gn, gs⟩ := dget_of (B := B) (m := m) (k := k) r2
  have eyv : y = .str k := r1
  refine ⟨a, o, ev, by rw [eyv]; exact g, ?_⟩
  cases e : getP kvs k with
  | none => rw [gn e]; rw [e] at p; exact q _ H2 (.bl false) (s1.trans s2) rfl p
  | some d =>
    obtain ⟨u, eo, ru⟩ := gs d e
    rw [eo]; rw [e] at p; exact q _ H2 (.bl true) (s1.trans s2) rfl p
/-- d[k] = v, an own dict -/
theorem ws_dput {i : Nat} {kvs : KVs} (hi : τ[i]? = some (owndP kvs)) (h : WP B tv (frz τ) fun d => Flat d ∧ WP B ty (frz τ) fun y => ∃ k, y = .str k ∧ kvs.length < 100000 ∧ N (τ.set i (owndP (putP kvs k d)))) : WS B (sDPut (tVar i) ty tv) τ Rt N Bk Ct := fun m O0 H0 A σ H hG R Dd rt nx bk ct => by
  refine h m O0 H0 [] σ H hG R.frz _ fun v H1 d s1 r1 h1 => ?_
  obtain ⟨fd, h1⟩ := h1
  obtain ⟨a, o, ea, hA, ho, eo, hlen, hfl⟩ := R.sl i _ hi
  refine ⟨.ref a, ea, h1 m O0 H0 [] σ H1 hG (R.frz.step s1) _ fun y H2 dy s2 r2 h2 => ?_⟩
  obtain ⟨k, ey, hl, p⟩ := h2
  subst ey
  have R2 := (R.step s1).step s2
  have ho2 : H2 a = some (.dK (kvs.map fun p => ((Sum.inr p.1 : Key), p.2.v))) := by
    rw [s2.keep _ _ (R.nom hA) (s1.keep _ _ (R.nom hA) ho), eo, ← zipV_flat]
  have evd : v = d.v := fd.eq r1
  have eyv : y = .str k := r2
  have hf2 : ∀ x ∈ (putP kvs k d).map Prod.snd, Flat x := fun x hx => by
    obtain ⟨p', hp', rfl⟩ := List.mem_map.mp hx
    have : ∀ p ∈ kvs, Flat p.2 := fun p hp => hfl p.2 (List.mem_map_of_mem hp)
    unfold putP at hp'
    split at hp'
    · obtain ⟨p, hp, rfl⟩ := List.mem_map.mp hp'
      split
      · exact fd
      · exact this p hp
    · rcases List.mem_append.mp hp' with z | z
      · exact this p' z
      · rw [List.mem_singleton.mp z]; exact fd
  obtain ⟨R3, tr⟩ := R2.write (s' := owndP (putP kvs k d)) (o' := .dK (putK (kvs.map fun p => ((Sum.inr p.1 : Key), p.2.v)) (.inr k) d.v)) hi rfl ea hA rfl ⟨by rw [put_flat, ← zipV_flat], by rw [List.length_map, List.length_map], hf2⟩
  refine ⟨a, _, rfl, .inl ⟨_, .inr k, ho2, eyv, by rw [List.length_map]; exact Evl.sz_lt hl, by rw [evd]⟩, nx _ _ _ _ ((Tr.of (s1.trans s2)).trans tr) R3 p⟩
/-! ### displays of dicts -/
def WPs (B : Bx) (τ : List Sl) : List (TE × TE) → (KVs → Prop) → Prop
  | [], P => P []
  | (tk, tv) :: r, P => WP B tk τ fun x => ∃ k, x = .str k ∧ WP B tv τ fun d => WPs B τ r fun kvs => P ((k, d) :: kvs)
theorem wps_run {m : Option Addr} {O0 A : List Addr} {H0 : Hp} {σ : L2.St} {p : Addr} (hG : B.G m H0) : ∀ {trs : List (TE × TE)} {P : KVs → Prop} {H : Hp}, WPs B τ trs P → B.rep m O0 H0 (p :: A) H σ τ → H p = some (.dK []) →
    ∀ Q : List (V × V) → Hp → Prop, (∀ (kvs : KVs) (vs : List V) H2, Stp m H H2 → B.rpl (Er ((p :: A) ++ O0) H2) (kvs.map Prod.snd) vs → P kvs → Q ((zipV kvs vs).map fun kv => (kV kv.1, kv.2)) H2) → tPairs trs σ H Q
  | [], P, H, h, R, hp, Q, q => q [] [] H R.gd.refl rfl h
  | (tk, tv) :: r, P, H, h, R, hp, Q, q => by
    refine h m O0 H0 (p :: A) σ H hG R _ fun x H1 dx s1 r1 h1 => ?_
    obtain ⟨k, ex, h1⟩ := h1
    subst ex
    have R1 := R.step s1
    have nm := R.nom (List.mem_cons_self (a := p) (l := A))
    refine h1 m O0 H0 (p :: A) σ H1 hG R1 _ fun y H2 d s2 r2 h2 => ?_
    have R2 := R1.step s2
    refine wps_run hG h2 R2 (s2.keep _ _ nm (s1.keep _ _ nm hp)) _ fun kvs vs H3 s3 r3 p3 => ?_
    have := q ((k, d) :: kvs) (y :: vs) H3 ((s1.trans s2).trans s3) ⟨y, vs, rfl, Rp.mono (R2.gd.er s3) _ _ r2, r3⟩ p3
    rw [show x = .str k from r1]
    exact this
theorem wp_disp {trs : List (TE × TE)} (h : WPs B τ trs fun kvs => (kvs.map Prod.fst).Nodup ∧ kvs.length ≤ 15 ∧ P (dctP kvs)) : WP B (tDisp trs) τ P := fun m O0 H0 A σ H hG R Q q => fun p hp => by
  have R1 := R.addA (o := .dK []) hp
  refine wps_run hG h R1 upd_same _ fun kvs vs H2 s2 r2 p2 => ?_
  obtain ⟨nd, hl, p2⟩ := p2
  have nm := R1.nom (List.mem_cons_self (a := p) (l := A))
  have hlv : (kvs.map Prod.snd).length = vs.length := r2.length
  rw [List.length_map] at hlv
  have ek : (zipV kvs vs).map Prod.fst = (kvs.map Prod.fst).map Sum.inr := List.map_fst_zip (by rw [List.length_map, List.length_map, hlv]; exact Nat.le_refl _)
  have hlz : (zipV kvs vs).length = kvs.length := by
    rw [← List.length_map (f := Prod.fst), ek, List.length_map, List.length_map]
  have em : mergeK [] (zipV kvs vs) = zipV kvs vs := mergeK_ap _ [] (by
    show ((zipV kvs vs).map Prod.fst).Nodup
    rw [ek]
    exact List.Pairwise.map _ (fun a b hab z => hab (Sum.inr.inj z)) nd)
  have nO : p ∉ A ++ O0 := R.gd.new hp
  refine ⟨s2.keep _ _ nm upd_same, zipV kvs vs, rfl, by rw [hlz]; exact hl, ?_⟩
  rw [em]
  have kp : ∀ b o, b ∉ (p :: A) ++ O0 → H2 b = some o → upd H2 p (.dK (zipV kvs vs)) b = some o := fun b o hb e => by
    rw [upd_ne (fun z => hb (by rw [z]; exact List.mem_cons_self))]; exact e
  have stm : Stp m H (upd H2 p (.dK (zipV kvs vs))) := ⟨fun b o n e => by
      have nb : b ≠ p := fun z => by rw [z, hp] at e; cases e
      rw [upd_ne nb]
      exact s2.keep b o n (by rw [upd_ne nb]; exact e), fun a e => by
      obtain ⟨d, t, w⟩ := s2.strm a e
      exact ⟨d, t, by rw [upd_ne (fun z => nm (by rw [← z]; exact e.symm))]; exact w⟩⟩
  exact q _ _ (dctP kvs) stm ⟨p, vs, rfl, .inl (Er.mk nO upd_same), RpL.mono (Er.shrink fun b hb => List.mem_cons_of_mem _ hb) _ _ (RpL.mono (Er.ex kp) _ _ r2), by rw [List.length_map]; exact hlv⟩ p2
/-- x = {k: v}, an own dict of flat things -/
theorem ws_disp {i : Nat} {trs : List (TE × TE)} (hi : i < τ.length) (h : WPs B (frz τ) trs fun kvs => (kvs.map Prod.fst).Nodup ∧ kvs.length ≤ 15 ∧ (∀ p ∈ kvs, Flat p.2) ∧ N ((frz τ).set i (owndP kvs))) : WS B (tAsg (tDisp trs) (gName i)) τ Rt N Bk Ct := fun m O0 H0 A σ H hG R Dd rt nx bk ct => fun p hp => by
  have R0 := R.frz
  have R1 := R0.addA (o := .dK []) hp
  refine wps_run hG h R1 upd_same _ fun kvs vs H2 s2 r2 p2 => ?_
  obtain ⟨nd, hl, hf, p2⟩ := p2
  have nm := R1.nom (List.mem_cons_self (a := p) (l := []))
  have evs : vs = (kvs.map Prod.snd).map D.v := by
    clear p2 nd hl h
    induction kvs generalizing vs with
    | nil => exact r2
    | cons q r ih =>
      obtain ⟨v, us, e, h1, h2⟩ := r2
      rw [e, (hf q List.mem_cons_self).eq h1, ih us h2 fun x hx => hf x (List.mem_cons_of_mem _ hx)]; rfl
  subst evs
  have em : mergeK [] (zipV kvs ((kvs.map Prod.snd).map D.v)) = zipV kvs ((kvs.map Prod.snd).map D.v) := mergeK_ap _ [] (by
    show ((zipV kvs ((kvs.map Prod.snd).map D.v)).map Prod.fst).Nodup
    rw [zipV_flat, List.map_map]
    have : ((Prod.fst : Key × V → Key) ∘ fun p : Str × D => ((Sum.inr p.1 : Key), p.2.v)) = fun p => Sum.inr p.1 := rfl
    rw [this]
    have : (kvs.map fun p : Str × D => (Sum.inr p.1 : Key)) = (kvs.map Prod.fst).map Sum.inr := by rw [List.map_map]; rfl
    rw [this]
    exact List.Pairwise.map _ (fun a b hab z => hab (Sum.inr.inj z)) nd)
  have hlz : (zipV kvs ((kvs.map Prod.snd).map D.v)).length = kvs.length := by rw [zipV_flat, List.length_map]
  have hp2 : H2 p = some (.dK []) := s2.keep _ _ nm upd_same
  refine ⟨hp2, _, rfl, by rw [hlz]; exact hl, ?_⟩
  rw [em]
  -- the state with the new own dict
  have R2 := R1.step s2
  have hw : ∀ (j : Nat) (s : Sl), (frz τ)[j]? = some s → s.isOwn = true → False := fun j s e o => by
    rw [frz_get] at e
    obtain ⟨s0, e0, rfl⟩ := Option.map_eq_some_iff.mp e
    cases s0 <;> cases o
  have R3 := R2.updX (o := .dK (zipV kvs ((kvs.map Prod.snd).map D.v))) List.mem_cons_self fun j s e o => (hw j s e o).elim
  have hi' : i < (frz τ).length := by unfold K15.frz; rw [List.length_map]; exact hi
  have R4 : Rep B.K B.C m O0 H0 [p] (upd H2 p (.dK (zipV kvs ((kvs.map Prod.snd).map D.v)))) (σ.set i (some (.ref p))) ((frz τ).set i (owndP kvs)) := by
    refine ⟨by rw [List.length_set, List.length_set]; exact R3.len, fun j s e => ?_, fun j k s t a e1 e2 o1 o2 q1 q2 => ?_, R3.dom, R3.mo, R3.st, R3.fresh, R3.domA⟩
    · by_cases hj : i = j
      · subst hj
        rw [List.getElem?_set_self hi'] at e
        cases e
        exact ⟨p, _, List.getElem?_set_self (by rw [R3.len]; exact hi'), List.mem_cons_self, upd_same, rfl, by rw [List.length_map, List.length_map], fun d hd => by
          obtain ⟨q, hq, rfl⟩ := List.mem_map.mp hd
          exact hf q hq⟩
      · rw [List.getElem?_set_ne hj] at e
        rw [List.getElem?_set_ne hj]
        exact R3.sl j s e
    · have f : ∀ (j : Nat) (t : Sl), ((frz τ).set i (owndP kvs))[j]? = some t → t.isOwn = true → i = j := fun j t e o => by
        by_cases hj : i = j
        · exact hj
        · rw [List.getElem?_set_ne hj] at e
          exact (hw j t e o).elim
      exact (f j s e1 o1).symm.trans (f k t e2 o2)
  refine nx _ _ _ _ ?_ R4 p2
  refine R.tfrz.trans ⟨fun b o n _ e => ?_, fun b hb => ?_, fun a e => ?_⟩
  · have nb : b ≠ p := fun z => by rw [z, hp] at e; cases e
    rw [upd_ne nb]
    exact s2.keep b o n (by rw [upd_ne nb]; exact e)
  · rw [List.mem_singleton.mp hb]; exact .inr hp
  · obtain ⟨d, t, w⟩ := s2.strm a e
    exact ⟨d, t, by rw [upd_ne (fun z => nm (by rw [← z]; exact e.symm))]; exact w⟩
/-! ### sorted -/
def rSortD : List V → Hp → VK → Prop := fun xs H Q => ∃ (a : Addr) (kvs : List (Key × V)) (ks : List Str), xs = [.ref a] ∧ Rd H a (.dK kvs) ∧ kvs.map (·.1) = ks.map Sum.inr ∧ ks.length < 64 ∧ ∀ ys p, ys.Perm ks → sortedS ys = true → H p = none → Q (.ref p) (upd H p (.lst (ys.map V.str)))
theorem cSortD {X : Cx} (hc : X.calm = true) : CallR X (.builtin "sorted") rSortD := call_sortedD hc
theorem cSortS {X : Cx} : CallR X (.builtin "sorted") (rSortedS X.K) := cr_sortedS
theorem cd_sortD {kvs : KVs} (h : kvs.length < 64) (p : ∀ ys : List Str, ys.Perm (kvs.map Prod.fst) → sortedS ys = true → P (.lst (ys.map .str))) : CallD B rSortD [dctP kvs] P := fun m O H vs gd r Q q => by
  obtain ⟨v, e, a, xs, ev, hd, hl, hn⟩ := one r
  refine ⟨a, _, kvs.map Prod.fst, by rw [e, ev], ex_rd Er.sub hd, List.map_fst_zip (by rw [List.length_map, hn]; exact Nat.le_refl _), by rw [List.length_map]; exact h, fun ys t hp hs ht => q _ _ (.lst (ys.map .str)) (gd.upd ht) ⟨t, _, rfl, gd.at ht, RpL.strs ys⟩ (p ys hp hs)⟩
theorem cd_sortS {ss : List Str} (h : ss.length < 64) (p : ∀ ys : List Str, ys.Perm ss → sortedS ys = true → P (.lst (ys.map .str))) : CallD B (rSortedS B.K) [.lst (ss.map .str)] P := fun m O H vs gd r Q q => by
  obtain ⟨v, e, a, xs, ev, ha, hl⟩ := one r
  refine ⟨a, ss, by rw [e, ev], .inl (.inl (by rw [← hl.strs_eq]; exact Er.sub _ _ ha)), h, fun ys t hp hs ht => q _ _ (.lst (ys.map .str)) (gd.upd ht) ⟨t, _, rfl, gd.at ht, RpL.strs ys⟩ (p ys hp hs)⟩
/-! ### own lists made -/
theorem Rep.newOwnF {K : PySem.W.Frag} {C : Addr} {m : Option Addr} {O0 A : List Addr} {H0 H H1 : Hp} {σ : L2.St} {p : Addr} {i : Nat} {ss : List Str} (R : Rep K C m O0 H0 A H σ τ) (s : Stp m H H1) (hp : H1 p = none) (hi : i < τ.length) :
    Rep K C m O0 H0 [p] (upd H1 p (.lst (ss.map V.str))) (σ.set i (some (.ref p))) ((K15.frz τ).set i (.own ss)) ∧ Tr m A H [p] (upd H1 p (.lst (ss.map V.str))) := by
  obtain ⟨R', tr⟩ := (R.frz.step s).newOwn (s := .own ss) (o := .lst (ss.map V.str)) (i := i) hp (by unfold K15.frz; rw [List.length_map]; exact hi) rfl rfl
  exact ⟨R', (R.tfrz.trans (.of s)).trans tr⟩
theorem ws_newL {i : Nat} (hi : i < τ.length) (h : WA B tr (frz τ) fun ds => ∃ ss : List Str, ds = ss.map .str ∧ ss.length ≤ 100000 ∧ N ((frz τ).set i (.own ss))) : WS B (tAsg (tLst tr) (gName i)) τ Rt N Bk Ct := fun m O0 H0 A σ H hG R Dd rt nx bk ct => by
  refine h m O0 H0 [] σ H hG R.frz _ fun vs H1 ds s1 r1 h1 => ?_
  obtain ⟨ss, e, hl, p⟩ := h1
  subst e
  have e := r1.strs_eq
  subst e
  refine ⟨by rw [List.length_map]; exact Evl.sz_of hl, fun t ht => ?_⟩
  obtain ⟨R', tr⟩ := R.newOwnF (ss := ss) s1 ht hi
  exact nx _ _ _ _ tr R' p
theorem ws_cat {i : Nat} (hi : i < τ.length) (h : WP B ta (frz τ) fun x => ∃ ss : List Str, x = .lst (ss.map .str) ∧ WP B tb (frz τ) fun y => ∃ ts : List Str, y = .lst (ts.map .str) ∧ ss.length + ts.length ≤ 100000 ∧ N ((frz τ).set i (.own (ss ++ ts)))) :
    WS B (tAsg (tOp rCat ta tb) (gName i)) τ Rt N Bk Ct := fun m O0 H0 A σ H hG R Dd rt nx bk ct => by
  refine h m O0 H0 [] σ H hG R.frz _ fun v H1 x s1 r1 h1 => ?_
  obtain ⟨ss, e, h1⟩ := h1
  subst e
  have R1 := R.frz.step s1
  refine h1 m O0 H0 [] σ H1 hG R1 _ fun w H2 y s2 r2 h2 => ?_
  obtain ⟨ts, e, hl, p⟩ := h2
  subst e
  obtain ⟨b, xs, ev, hb, hx⟩ := Rp.mono (R1.gd.er s2) _ _ r1
  obtain ⟨c, ys, ew, hc, hy⟩ := r2
  have e1 := hx.strs_eq
  have e2 := hy.strs_eq
  subst e1
  subst e2
  refine ⟨b, c, ss.map V.str, ts.map V.str, ev, ew, Er.sub _ _ hb, Er.sub _ _ hc, by rw [List.length_map, List.length_map]; exact Evl.sz_of hl, fun t ht => ?_⟩
  obtain ⟨R', tr⟩ := R.newOwnF (ss := ss ++ ts) (s1.trans s2) ht hi
  rw [List.map_append] at R' tr
  exact nx _ _ _ _ tr R' p
end
/-! ### raise -/
section
variable {K : PySem.W.Frag} {C CB : Addr} {E : XK} {PE : Prop} {τ : List Sl} {Rt : D → Prop} {N Bk Ct : List Sl → Prop} {P : D → Prop} {tr : TA}
theorem ws_raise (h : PE) : WS ⟨K, C, GX CB E PE⟩ (fun _ σ H => (fun _ H Q => Q (.ref CB) none H : L2.St → Hp → XK → Prop) σ H fun cls d H' => E cls d H') τ Rt N Bk Ct := fun m O0 H0 A σ H hG R Dd rt nx bk ct => hG h H R.st
theorem wp_callE {f : FnX} (h : WA ⟨K, C, GX CB E PE⟩ tr τ fun ds => ∃ PE', f ds P PE' ∧ (PE' → PE)) : WP ⟨K, C, GX CB E PE⟩ (tCall (spX K C CB f) [] E tr) τ P :=
  wp_callX (B := ⟨K, C, GX CB E PE⟩) (by
    refine fun m O0 H0 A σ H hG R Q q => h m O0 H0 A σ H hG R Q fun vs H' ds s r p => q vs H' ds s r ?_
    obtain ⟨PE', hf, hp⟩ := p
    exact ⟨PE', hf, fun z m H0 g => g (hp z)⟩)
end
end K15
/-! pure: a letter's value, taken apart. -/
namespace K15
open PySem L2 PyProof.Rows
set_option autoImplicit false
theorem ref_pure {d : D} (h : isRefD d = true) : d.pure = true := by
  obtain ⟨x, n, rfl, _⟩ := isRefD_eq h
  rfl
theorem ref_dep {d : D} (h : isRefD d = true) : d.py.depth ≤ 1 := by
  obtain ⟨x, n, rfl, _⟩ := isRefD_eq h
  refine dep_tup (n := 0) fun d hd => ?_
  rcases List.mem_cons.mp hd with e | e
  · rw [e]; exact dep_str
  · rcases List.mem_cons.mp e with e | e
    · rw [e]; exact dep_int
    · cases e
theorem pairIn_iff {y : Str} {i : Int} {es : List D} (h : ∀ d ∈ es, isRefD d = true) : pairIn (.str y) (.int i) es = true ↔ D.tup [.str y, .int i] ∈ es := by
  unfold pairIn
  rw [List.any_eq_true]
  constructor
  · rintro ⟨d, hd, e⟩
    obtain ⟨x, n, rfl, _⟩ := isRefD_eq (h d hd)
    simp only [Bool.and_eq_true, decide_eq_true_eq] at e
    rw [← e.1, ← e.2]; exact hd
  · intro hd
    exact ⟨_, hd, by simp⟩
theorem isSeenD_eq {d : D} (h : isSeenD d = true) : ∃ es, d = .tup es ∧ (∀ x ∈ es, isRefD x = true) ∧ ascL (es.map fun d => strD (fstD d)) = true := by
  cases d with
  | tup es =>
    have h : (es.all isRefD && ascL (es.map fun d => strD (fstD d))) = true := h
    rw [Bool.and_eq_true] at h
    exact ⟨es, rfl, fun x hx => List.all_eq_true.mp h.1 x hx, h.2⟩
  | _ => cases h
theorem isMembersD_eq {d : D} (h : isMembersD d = true) : ∃ es, d = .tup es ∧ es.length ≤ 15 ∧ (∀ x ∈ es, isNameD x = true) ∧ ascL (es.map strD) = true := by
  cases d with
  | tup es =>
    have h : (decide (es.length ≤ 15) && (es.all isNameD && ascL (es.map strD))) = true := h
    rw [Bool.and_eq_true, Bool.and_eq_true] at h
    exact ⟨es, rfl, of_decide_eq_true h.1, fun x hx => List.all_eq_true.mp h.2.1 x hx, h.2.2⟩
  | _ => cases h
theorem isBodyD_head {d : D} (h : isBodyD d = true) : ∃ k r, d = .tup (.str k :: r) := by
  unfold isBodyD at h
  split at h
  · exact ⟨_, _, rfl⟩
  · cases h
theorem isBodyD_found {r : List D} (h : isBodyD (.tup (.str "found" :: r)) = true) : ∃ t m, r = [t, m] ∧ isTitleD t = true ∧ isMembersD m = true := by
  match r, h with
  | [], h => cases h
  | [_], h => cases h
  | [t, m], h =>
    have h : (isTitleD t && isMembersD m) = true := h
    rw [Bool.and_eq_true] at h
    exact ⟨t, m, rfl, h.1, h.2⟩
  | _ :: _ :: _ :: _, h => cases h
theorem names_str {es : List D} (h : ∀ x ∈ es, isNameD x = true) : es.all D.isStr = true := by
  rw [List.all_eq_true]
  intro x hx
  obtain ⟨y, rfl⟩ := isNameD_str (h x hx)
  rfl
end K15
/-! pure: letters as structures; what their headers and texts are. -/
namespace K15
open PySem L2 PyProof.Rows
set_option autoImplicit false
inductive Bod where
  | found (t : Str) (ms : List Str) | say (t : Str) | reply (x : Str) (n : Int) (t : Str) | edit (x : Str) (n : Int) (t : Str) | recall (x : Str) (n : Int) | mark (x : Str) (n : Int) (w : Str)
  | title (t : Str) | add (x : Str) | cut (x : Str) | hand (x : Str) | seen
abbrev refD (x : Str) (n : Int) : D := .tup [.str x, .int n]
namespace Bod
@[reducible] def kind : Bod → Str
  | found _ _ => "found" | say _ => "say" | reply _ _ _ => "reply" | edit _ _ _ => "edit" | recall _ _ => "recall" | mark _ _ _ => "mark"
  | title _ => "title" | add _ => "add" | cut _ => "cut" | hand _ => "hand" | seen => "seen"
@[reducible] def parts : Bod → List D
  | found t ms => [.str t, .tup (ms.map .str)]
  | say t => [.str t]
  | reply x n t => [refD x n, .str t]
  | edit x n t => [refD x n, .str t]
  | recall x n => [refD x n]
  | mark x n w => [refD x n, .str w]
  | title t => [.str t]
  | add x => [.str x]
  | cut x => [.str x]
  | hand x => [.str x]
  | seen => []
abbrev d (b : Bod) : D := .tup (.str b.kind :: b.parts)
abbrev NmOk (x : Str) : Prop := nameL (TL.tl x) = true
abbrev NuOk (n : Int) : Prop := numOk n = true
abbrev TtOk (t : Str) : Prop := isTitleD (.str t) = true
abbrev TxOk (t : Str) : Prop := isTextD (.str t) = true
def ok : Bod → Prop
  | found t ms => TtOk t ∧ ms.length ≤ 15 ∧ (∀ m ∈ ms, NmOk m) ∧ ascL ms = true
  | say t => TxOk t
  | reply x n t => (NmOk x ∧ NuOk n) ∧ TxOk t
  | edit x n t => (NmOk x ∧ NuOk n) ∧ TxOk t
  | recall x n => NmOk x ∧ NuOk n
  | mark x n w => (NmOk x ∧ NuOk n) ∧ NmOk w
  | title t => TtOk t
  | add x => NmOk x
  | cut x => NmOk x
  | hand x => NmOk x
  | seen => True
@[reducible] def text : Bod → Option Str
  | say t => some t
  | reply _ _ t => some t
  | edit _ _ t => some t
  | _ => none
@[reducible] def ref : Bod → Option (Str × Int)
  | reply x n _ => some (x, n)
  | edit x n _ => some (x, n)
  | recall x n => some (x, n)
  | mark x n _ => some (x, n)
  | _ => none
def ftitle : Bod → Option Str
  | found t _ => some t
  | title t => some t
  | _ => none
end Bod
open Bod (NmOk NuOk TtOk TxOk)
theorem names_eq : ∀ {es : List D}, (∀ x ∈ es, isNameD x = true) → ∃ ms : List Str, es = ms.map .str ∧ (∀ m ∈ ms, NmOk m) ∧ es.map strD = ms
  | [], _ => ⟨[], rfl, fun _ h => (nomatch h), rfl⟩
  | d :: r, h => by
    obtain ⟨x, rfl⟩ := isNameD_str (h d List.mem_cons_self)
    obtain ⟨ms, rfl, h2, e⟩ := names_eq (es := r) fun y hy => h y (List.mem_cons_of_mem _ hy)
    refine ⟨x :: ms, rfl, fun m hm => ?_, by rw [List.map_cons, e]; rfl⟩
    rcases List.mem_cons.mp hm with z | z
    · rw [z]; exact h (.str x) List.mem_cons_self
    · exact h2 m z
theorem refs_eq : ∀ {es : List D}, (∀ x ∈ es, isRefD x = true) → ∃ ps : List (Str × Int), es = ps.map (fun p => refD p.1 p.2) ∧ (∀ p ∈ ps, NmOk p.1 ∧ NuOk p.2) ∧ es.map (fun d => strD (fstD d)) = ps.map Prod.fst
  | [], _ => ⟨[], rfl, fun _ h => (nomatch h), rfl⟩
  | d :: r, h => by
    obtain ⟨x, n, rfl, h1⟩ := isRefD_eq (h d List.mem_cons_self)
    obtain ⟨ms, rfl, h2, e⟩ := refs_eq (es := r) fun y hy => h y (List.mem_cons_of_mem _ hy)
    refine ⟨(x, n) :: ms, rfl, fun m hm => ?_, by rw [List.map_cons, e]; rfl⟩
    rcases List.mem_cons.mp hm with z | z
    · rw [z]; exact h1
    · exact h2 m z
theorem isTextD_str {d : D} (h : isTextD d = true) : ∃ x, d = .str x := by
  cases d with
  | str x => exact ⟨x, rfl⟩
  | _ => cases h
theorem isTitleD_str {d : D} (h : isTitleD d = true) : ∃ x, d = .str x := by
  cases d with
  | str x => exact ⟨x, rfl⟩
  | _ => cases h
theorem isBodyD_kind {k : Str} {r : List D} (h : isBodyD (.tup (.str k :: r)) = true) : k = "found" ∨ k = "say" ∨ k = "reply" ∨ k = "edit" ∨ k = "recall" ∨ k = "mark" ∨ k = "title" ∨ k = "add" ∨ k = "cut" ∨ k = "hand" ∨ k = "seen" := by
  by_cases k0 : k = "found"
  · exact .inl k0
  by_cases k1 : k = "say"
  · exact .inr (.inl k1)
  by_cases k2 : k = "reply"
  · exact .inr (.inr (.inl k2))
  by_cases k3 : k = "edit"
  · exact .inr (.inr (.inr (.inl k3)))
  by_cases k4 : k = "recall"
  · exact .inr (.inr (.inr (.inr (.inl k4))))
  by_cases k5 : k = "mark"
  · exact .inr (.inr (.inr (.inr (.inr (.inl k5)))))
  by_cases k6 : k = "title"
  · exact .inr (.inr (.inr (.inr (.inr (.inr (.inl k6))))))
  by_cases k7 : k = "add"
  · exact .inr (.inr (.inr (.inr (.inr (.inr (.inr (.inl k7)))))))
  by_cases k8 : k = "cut"
  · exact .inr (.inr (.inr (.inr (.inr (.inr (.inr (.inr (.inl k8))))))))
  by_cases k9 : k = "hand"
  · exact .inr (.inr (.inr (.inr (.inr (.inr (.inr (.inr (.inr (.inl k9)))))))))
  by_cases ka : k = "seen"
  · exact .inr (.inr (.inr (.inr (.inr (.inr (.inr (.inr (.inr (.inr ka)))))))))
  unfold isBodyD at h
  simp only [k0, k1, k2, k3, k4, k5, k6, k7, k8, k9, ka, if_false] at h
  cases h
theorem body_eq {d : D} (h : isBodyD d = true) : ∃ b : Bod, d = b.d ∧ b.ok := by
  obtain ⟨k, r, rfl⟩ := isBodyD_head h
  rcases isBodyD_kind h with rfl | rfl | rfl | rfl | rfl | rfl | rfl | rfl | rfl | rfl | rfl
  · obtain ⟨t, m, rfl, ht, hm⟩ := isBodyD_found h
    obtain ⟨x, rfl⟩ := isTitleD_str ht
    obtain ⟨es, rfl, hl, hn, ha⟩ := isMembersD_eq hm
    obtain ⟨ms, rfl, h2, e⟩ := names_eq hn
    exact ⟨.found x ms, rfl, ht, by simpa using hl, h2, by rw [← e]; exact ha⟩
  · match r, h with
    | [], h => cases h
    | [t], h =>
      have h : isTextD t = true := h
      obtain ⟨x, rfl⟩ := isTextD_str h
      exact ⟨.say x, rfl, h⟩
    | _ :: _ :: _, h => cases h
  · match r, h with
    | [], h => cases h
    | [_], h => cases h
    | [f, t], h =>
      have h : (isRefD f && isTextD t) = true := h
      rw [Bool.and_eq_true] at h
      obtain ⟨x, n, rfl, h1⟩ := isRefD_eq h.1
      obtain ⟨y, rfl⟩ := isTextD_str h.2
      exact ⟨.reply x n y, rfl, h1, h.2⟩
    | _ :: _ :: _ :: _, h => cases h
  · match r, h with
    | [], h => cases h
    | [_], h => cases h
    | [f, t], h =>
      have h : (isRefD f && isTextD t) = true := h
      rw [Bool.and_eq_true] at h
      obtain ⟨x, n, rfl, h1⟩ := isRefD_eq h.1
      obtain ⟨y, rfl⟩ := isTextD_str h.2
      exact ⟨.edit x n y, rfl, h1, h.2⟩
    | _ :: _ :: _ :: _, h => cases h
  · match r, h with
    | [], h => cases h
    | [f], h =>
      have h : isRefD f = true := h
      obtain ⟨x, n, rfl, h1⟩ := isRefD_eq h
      exact ⟨.recall x n, rfl, h1⟩
    | _ :: _ :: _, h => cases h
  · match r, h with
    | [], h => cases h
    | [_], h => cases h
    | [f, t], h =>
      have h : (isRefD f && isNameD t) = true := h
      rw [Bool.and_eq_true] at h
      obtain ⟨x, n, rfl, h1⟩ := isRefD_eq h.1
      obtain ⟨y, rfl⟩ := isNameD_str h.2
      exact ⟨.mark x n y, rfl, h1, h.2⟩
    | _ :: _ :: _ :: _, h => cases h
  · match r, h with
    | [], h => cases h
    | [t], h =>
      have h : isTitleD t = true := h
      obtain ⟨x, rfl⟩ := isTitleD_str h
      exact ⟨.title x, rfl, h⟩
    | _ :: _ :: _, h => cases h
  · match r, h with
    | [], h => cases h
    | [t], h =>
      have h : isNameD t = true := h
      obtain ⟨x, rfl⟩ := isNameD_str h
      exact ⟨.add x, rfl, h⟩
    | _ :: _ :: _, h => cases h
  · match r, h with
    | [], h => cases h
    | [t], h =>
      have h : isNameD t = true := h
      obtain ⟨x, rfl⟩ := isNameD_str h
      exact ⟨.cut x, rfl, h⟩
    | _ :: _ :: _, h => cases h
  · match r, h with
    | [], h => cases h
    | [t], h =>
      have h : isNameD t = true := h
      obtain ⟨x, rfl⟩ := isNameD_str h
      exact ⟨.hand x, rfl, h⟩
    | _ :: _ :: _, h => cases h
  · match r, h with
    | [], h => exact ⟨.seen, rfl, trivial⟩
    | _ :: _, h => cases h
theorem refD_ok {x : Str} {n : Int} (h1 : NmOk x) (h2 : NuOk n) : isRefD (refD x n) = true := by
  show (isNameD (.str x) && isNumD (.int n)) = true
  rw [show isNameD (.str x) = true from h1, show isNumD (.int n) = true from h2]; rfl
theorem body_ok {b : Bod} (h : b.ok) : isBodyD b.d = true := by
  cases b with
  | found t ms =>
    obtain ⟨h1, h2, h3, h4⟩ := h
    show (isTitleD (.str t) && isMembersD (.tup (ms.map .str))) = true
    have : isMembersD (.tup (ms.map .str)) = true := by
      show (decide ((ms.map D.str).length ≤ 15) && ((ms.map D.str).all isNameD && ascL ((ms.map D.str).map strD))) = true
      have e : (ms.map D.str).map strD = ms := by rw [List.map_map]; exact List.map_id _
      rw [e, h4]
      simp only [List.length_map, h2, decide_true, Bool.true_and, Bool.and_true, List.all_eq_true]
      intro x hx
      obtain ⟨m, hm, rfl⟩ := List.mem_map.mp hx
      exact h3 m hm
    rw [show isTitleD (.str t) = true from h1, this]; rfl
  | say t => exact h
  | reply x n t =>
    show (isRefD (refD x n) && isTextD (.str t)) = true
    rw [refD_ok h.1.1 h.1.2, show isTextD (.str t) = true from h.2]; rfl
  | edit x n t =>
    show (isRefD (refD x n) && isTextD (.str t)) = true
    rw [refD_ok h.1.1 h.1.2, show isTextD (.str t) = true from h.2]; rfl
  | recall x n => exact refD_ok h.1 h.2
  | mark x n t =>
    show (isRefD (refD x n) && isNameD (.str t)) = true
    rw [refD_ok h.1.1 h.1.2, show isNameD (.str t) = true from h.2]; rfl
  | title t => exact h
  | add t => exact h
  | cut t => exact h
  | hand t => exact h
  | seen => rfl
/-- a letter -/
structure Ltr where
  a : Str
  n : Int
  s : Int
  es : List (Str × Int)
  b : Bod
namespace Ltr
abbrev esD (L : Ltr) : D := .tup (L.es.map fun p => refD p.1 p.2)
abbrev d (L : Ltr) : D := .tup [.str L.a, .int L.n, .int L.s, L.esD, L.b.d]
abbrev l (L : Ltr) : D := .ltr (.str L.a) (.int L.n) (.int L.s) L.esD L.b.d
structure ok (L : Ltr) : Prop where
  a : NmOk L.a
  n : NuOk L.n
  s : NuOk L.s
  es : ∀ p ∈ L.es, NmOk p.1 ∧ NuOk p.2
  asc : ascL (L.es.map Prod.fst) = true
  b : L.b.ok
  me : (L.a, L.n) ∈ L.es
  le : L.n ≤ L.s
  kd : if L.b.kind = "found" then L.s = 1 ∧ L.es.length = 1 ∧ (memD L.b.d).any (D.eqS L.a) = false else 1 < L.s
end Ltr
theorem refD_inj {x y : Str} {n m : Int} (h : refD x n = refD y m) : x = y ∧ n = m := by
  unfold refD at h
  cases h
  exact ⟨rfl, rfl⟩
theorem mem_refs {x : Str} {n : Int} {ps : List (Str × Int)} : D.tup [.str x, .int n] ∈ ps.map (fun p => refD p.1 p.2) ↔ (x, n) ∈ ps := by
  constructor
  · intro h
    obtain ⟨p, hp, e⟩ := List.mem_map.mp h
    obtain ⟨e1, e2⟩ := refD_inj (x := p.1) (n := p.2) (y := x) (m := n) e
    rw [← e1, ← e2]; exact hp
  · intro h
    exact List.mem_map.mpr ⟨(x, n), h, rfl⟩
theorem letter_eq {d : D} (h : isLetterD d = true) : ∃ L : Ltr, d = L.d ∧ L.ok := by
  unfold isLetterD at h
  split at h
  · rename_i a n s e b
    simp only [Bool.and_eq_true] at h
    obtain ⟨⟨h1, h2, h3⟩, ⟨h4, h5⟩, ⟨h6, h7⟩, h8⟩ := h
    obtain ⟨x, rfl⟩ := isNameD_str h1
    obtain ⟨i, rfl⟩ := isNumD_int h2
    obtain ⟨j, rfl⟩ := isNumD_int h3
    obtain ⟨es, rfl, hr, ha⟩ := isSeenD_eq h4
    obtain ⟨ps, rfl, hp, ep⟩ := refs_eq hr
    obtain ⟨b, rfl, hb⟩ := body_eq h5
    refine ⟨⟨x, i, j, ps, b⟩, rfl, h1, h2, h3, hp, by rw [← ep]; exact ha, hb, mem_refs.mp ((pairIn_iff hr).mp h6), of_decide_eq_true h7, ?_⟩
    have h8 : (if b.kind = "found" then decide (j = 1) && (decide ((ps.map fun p => refD p.1 p.2).length = 1) && !(memD b.d).any (D.eqS x)) else decide (1 < j)) = true := h8
    show if b.kind = "found" then _ else _
    split at h8
    · rename_i hk
      rw [if_pos hk]
      simp only [Bool.and_eq_true, decide_eq_true_eq, Bool.not_eq_true', List.length_map] at h8
      exact h8
    · rename_i hk
      rw [if_neg hk]
      exact of_decide_eq_true h8
  · cases h
theorem letter_ok {L : Ltr} (h : L.ok) : isLetterD L.d = true := by
  obtain ⟨h1, h2, h3, h4, h5, h6, h7, h8, h9⟩ := h
  have hr : ∀ x ∈ L.es.map (fun p => refD p.1 p.2), isRefD x = true := fun x hx => by
    obtain ⟨p, hp, rfl⟩ := List.mem_map.mp hx
    exact refD_ok (h4 p hp).1 (h4 p hp).2
  have e4 : isSeenD L.esD = true := by
    show ((L.es.map fun p => refD p.1 p.2).all isRefD && ascL ((L.es.map fun p => refD p.1 p.2).map fun d => strD (fstD d))) = true
    rw [List.all_eq_true.mpr hr, List.map_map]
    exact h5
  show ((isNameD (.str L.a) && (isNumD (.int L.n) && isNumD (.int L.s))) && ((isSeenD L.esD && isBodyD L.b.d) && ((pairIn (.str L.a) (.int L.n) (L.es.map fun p => refD p.1 p.2) && decide (L.n ≤ L.s)) &&
      (if L.b.kind = "found" then decide (L.s = 1) && (decide ((L.es.map fun p => refD p.1 p.2).length = 1) && !(memD L.b.d).any (D.eqS L.a)) else decide (1 < L.s))))) = true
  rw [show isNameD (.str L.a) = true from h1, show isNumD (.int L.n) = true from h2, show isNumD (.int L.s) = true from h3, e4, body_ok h6, (pairIn_iff hr).mpr (mem_refs.mpr h7), decide_eq_true h8]
  simp only [Bool.true_and]
  split
  · rename_i hk
    rw [if_pos hk] at h9
    simp only [Bool.and_eq_true, decide_eq_true_eq, Bool.not_eq_true', List.length_map]
    exact h9
  · rename_i hk
    rw [if_neg hk] at h9
    exact decide_eq_true h9
end K15
/-! pure: header lines, numbers as texts, what the program reads from header lines. -/
namespace K15
open PySem PySem.Spec PyProof.Rows L2
open Bod (NmOk NuOk TtOk TxOk)
set_option autoImplicit false
theorem slen_app' (x y : Str) : (x ++ y).length = x.length + y.length := by rw [TL.len_tl, TL.tl_append, List.length_append, ← TL.len_tl, ← TL.len_tl]
theorem sapp (x y z : Str) : x ++ y ++ z = x ++ (y ++ z) := TL.ext_tl (by simp only [TL.tl_append, List.append_assoc])
def numS (n : Int) : Str := toString n
def refS (x : Str) (n : Int) : Str := x ++ (" " : Str) ++ numS n
def linesS (t : Str) : Str := "Lines: " ++ numS (Txt.count t "\n" + 1)
def Bod.lines : Bod → List Str
  | .found t ms => ["Title: " ++ t, "Members: " ++ Txt.join ", " ms]
  | .say t => [linesS t]
  | .reply x n t => ["Ref: " ++ refS x n, linesS t]
  | .edit x n t => ["Ref: " ++ refS x n, linesS t]
  | .recall x n => ["Ref: " ++ refS x n]
  | .mark x n w => ["Ref: " ++ refS x n, "Word: " ++ w]
  | .title t => ["Title: " ++ t]
  | .add x => ["Name: " ++ x]
  | .cut x => ["Name: " ++ x]
  | .hand x => ["Name: " ++ x]
  | .seen => []
def seenS (es : List (Str × Int)) : Str := Txt.join ", " (es.map fun p => refS p.1 p.2)
def Ltr.hdr (L : Ltr) : List Str := ["From: " ++ refS L.a L.n, "Stamp: " ++ numS L.s, "Seen: " ++ seenS L.es, "Kind: " ++ L.b.kind] ++ L.b.lines
@[reducible] def Bod.txtD (b : Bod) : D := match b.text with | some t => .str t | none => .non
@[reducible] def Bod.refO (b : Bod) : D := match b.ref with | some p => refD p.1 p.2 | none => .non
/-! ### sizes -/
theorem numOk_nat {n : Int} (h : NuOk n) : ∃ m : Nat, n = m ∧ 1 ≤ m ∧ m ≤ 1000000000000000000 := by
  have h : (decide (1 ≤ n) && decide (n ≤ 1000000000000000000)) = true := h
  simp only [Bool.and_eq_true, decide_eq_true_eq] at h
  exact ⟨n.toNat, by omega, by omega, by omega⟩
theorem tl_numS (m : Nat) : TL.tl (numS (m : Int)) = TL.numL m := TL.tl_num m
theorem numS_len {n : Int} (h0 : 0 ≤ n) (h : n ≤ 1000000000000000000) : (numS n).length ≤ 19 := by
  obtain ⟨m, rfl⟩ := Int.eq_ofNat_of_zero_le h0
  rw [TL.len_tl, tl_numS]
  exact TL.numL_len (by decide) (by omega)
theorem log_ok {n : Int} (h0 : 0 ≤ n) (h : n ≤ 1000000000000000000) : n.natAbs.log2 < 1920 := by
  have : n.natAbs < 2 ^ 60 := by omega
  by_cases hz : n.natAbs = 0
  · rw [hz]; decide
  · have := (Nat.log2_lt hz).mpr this
    omega
theorem nu_log {n : Int} (h : NuOk n) : n.natAbs.log2 < 1920 := by
  obtain ⟨m, rfl, h1, h2⟩ := numOk_nat h
  exact log_ok (by omega) (by omega)
theorem nm_len {x : Str} (h : NmOk x) : x.length ≤ 12 := by
  have h : (decide (1 ≤ (TL.tl x).length) && (decide ((TL.tl x).length ≤ 12) && ((TL.tl x).all nmCh && headL (TL.tl x)))) = true := h
  simp only [Bool.and_eq_true, decide_eq_true_eq] at h
  rw [TL.len_tl]; exact h.2.1
theorem nm_len1 {x : Str} (h : NmOk x) : 1 ≤ x.length := by
  have h : (decide (1 ≤ (TL.tl x).length) && (decide ((TL.tl x).length ≤ 12) && ((TL.tl x).all nmCh && headL (TL.tl x)))) = true := h
  simp only [Bool.and_eq_true, decide_eq_true_eq] at h
  rw [TL.len_tl]; exact h.1
theorem nm_ch {x : Str} (h : NmOk x) {c : Nat} (hc : c ∈ TL.tl x) : nmCh c = true := by
  have h : (decide (1 ≤ (TL.tl x).length) && (decide ((TL.tl x).length ≤ 12) && ((TL.tl x).all nmCh && headL (TL.tl x)))) = true := h
  simp only [Bool.and_eq_true, decide_eq_true_eq] at h
  exact List.all_eq_true.mp h.2.2.1 c hc
theorem lettersL_eq : lettersL = (List.range 26).map (· + 97) := by rfl
theorem digitsL_eq : digitsL = (List.range 10).map (· + 48) := by rfl
theorem mem_lettersL {c : Nat} : c ∈ lettersL ↔ 97 ≤ c ∧ c ≤ 122 := by
  rw [lettersL_eq]; simp only [List.mem_map, List.mem_range]
  exact ⟨fun ⟨a, h, e⟩ => by omega, fun h => ⟨c - 97, by omega, by omega⟩⟩
theorem mem_digitsL {c : Nat} : c ∈ digitsL ↔ 48 ≤ c ∧ c ≤ 57 := by
  rw [digitsL_eq]; simp only [List.mem_map, List.mem_range]
  exact ⟨fun ⟨a, h, e⟩ => by omega, fun h => ⟨c - 48, by omega, by omega⟩⟩
theorem nmCh_iff {c : Nat} : nmCh c = true ↔ (97 ≤ c ∧ c ≤ 122) ∨ (48 ≤ c ∧ c ≤ 57) := by
  unfold nmCh
  rw [Bool.or_eq_true, decide_eq_true_eq, decide_eq_true_eq, mem_lettersL, mem_digitsL]
theorem nm_free {x : Str} (h : NmOk x) {c : Nat} (hc : c < 48) : c ∉ TL.tl x := fun z => by
  have := nmCh_iff.mp (nm_ch h z)
  omega
theorem refS_len {x : Str} {n : Int} (h1 : NmOk x) (h2 : NuOk n) : (refS x n).length ≤ 32 := by
  obtain ⟨m, rfl, h3, h4⟩ := numOk_nat h2
  have a := nm_len h1
  have b := numS_len (n := (m : Int)) (by omega) (by omega)
  have e : ((" " : Str)).length = 1 := rfl
  unfold refS
  rw [slen_app', slen_app', e]
  omega
theorem tx_len {t : Str} (h : TxOk t) : t.length ≤ 400 := by
  have h : (decide (1 ≤ t.length) && (decide (t.length ≤ 400) && plainL ((TL.tl t).filter fun c => !decide (c = 10)))) = true := h
  simp only [Bool.and_eq_true, decide_eq_true_eq] at h
  exact h.2.1
theorem tt_len {t : Str} (h : TtOk t) : t.length ≤ 60 := by
  have h : (decide (t.length ≤ 60) && plainL (TL.tl t)) = true := h
  simp only [Bool.and_eq_true, decide_eq_true_eq] at h
  exact h.1
theorem cnt_count (c : Nat) (l : List Nat) : cnt c l = (l.count c : Nat) := by
  induction l with
  | nil => rfl
  | cons n r ih =>
    rw [cnt_cons, ih, List.count_cons]
    by_cases e : n = c
    · simp [e]; omega
    · simp [e]
theorem count_nl (t : Str) : Txt.count t "\n" = ((TL.tl t).count 10 : Nat) := by
  rw [← cnt_count, ← count_cnt]; rfl
theorem join_len (S : Str) : ∀ ss : List Str, (Txt.join S ss).length ≤ (ss.map (·.length)).sum + ss.length * S.length := fun ss => by
  rw [TL.join_eq, TL.len_tl, TL.tl_join]
  induction ss with
  | nil => simp [TL.joinL]
  | cons x r ih =>
    cases r with
    | nil => simp only [List.map_cons, List.map_nil, TL.joinL, List.sum_cons, List.sum_nil, List.length_cons, List.length_nil]; rw [← TL.len_tl]; omega
    | cons y q =>
      have e : TL.joinL (TL.tl S) ((x :: y :: q).map TL.tl) = TL.tl x ++ (TL.tl S ++ TL.joinL (TL.tl S) ((y :: q).map TL.tl)) := rfl
      rw [e, List.length_append, List.length_append, ← TL.len_tl, ← TL.len_tl]
      have e1 : ((x :: y :: q).map (·.length)).sum = x.length + ((y :: q).map (·.length)).sum := by rw [List.map_cons, List.sum_cons]
      have e2 : (x :: y :: q).length * S.length = S.length + (y :: q).length * S.length := by rw [List.length_cons, Nat.succ_mul, Nat.add_comm]
      rw [e1, e2]
      omega
theorem sum_len {n : Nat} : ∀ {ss : List Str}, (∀ s ∈ ss, s.length ≤ n) → (ss.map (·.length)).sum ≤ ss.length * n
  | [], _ => by simp
  | x :: r, h => by
    have := h x List.mem_cons_self
    have := sum_len (ss := r) fun s hs => h s (List.mem_cons_of_mem _ hs)
    rw [List.map_cons, List.sum_cons, List.length_cons, Nat.succ_mul]
    omega
theorem par_len {S : List Nat} : ∀ (l acc : List Nat) (a b : List Nat), TL.par S acc l = some (a, b) → a.length ≤ acc.length + l.length ∧ b.length ≤ l.length
  | [], acc, a, b, h => by cases h
  | c :: r, acc, a, b, h => by
    have h : (if TL.pre S (c :: r) = true then some (acc, (c :: r).drop S.length) else TL.par S (acc ++ [c]) r) = some (a, b) := h
    split at h
    · cases h
      exact ⟨by omega, by rw [List.length_drop]; omega⟩
    · have := par_len r _ a b h
      simp only [List.length_append, List.length_cons, List.length_nil] at this ⊢
      omega
theorem par_mem {S : List Nat} {x : Nat} : ∀ (l acc : List Nat) (a b : List Nat), TL.par S acc l = some (a, b) → (x ∈ a → x ∈ acc ∨ x ∈ l) ∧ (x ∈ b → x ∈ l)
  | [], acc, a, b, h => by cases h
  | c :: r, acc, a, b, h => by
    have h : (if TL.pre S (c :: r) = true then some (acc, (c :: r).drop S.length) else TL.par S (acc ++ [c]) r) = some (a, b) := h
    split at h
    · cases h
      exact ⟨.inl, fun z => List.mem_of_mem_drop z⟩
    · obtain ⟨h1, h2⟩ := par_mem (x := x) r _ a b h
      refine ⟨fun z => ?_, fun z => List.mem_cons_of_mem _ (h2 z)⟩
      rcases h1 z with q | q
      · rcases List.mem_append.mp q with q | q
        · exact .inl q
        · rw [List.mem_singleton.mp q]; exact .inr List.mem_cons_self
      · exact .inr (List.mem_cons_of_mem _ q)
theorem part_len {y : Str} (x : Str) (hy : TL.tl y ≠ []) : (Txt.partition x y).1.length ≤ x.length ∧ (Txt.partition x y).2.2.length ≤ x.length := by
  rw [TL.partition_par x y hy]
  cases e : TL.par (TL.tl y) [] (TL.tl x) with
  | none => exact ⟨Nat.le_refl _, Nat.zero_le _⟩
  | some p =>
    obtain ⟨a, b⟩ := p
    have := par_len _ _ a b e
    show (⟨a.toArray⟩ : Str).length ≤ _ ∧ (⟨b.toArray⟩ : Str).length ≤ _
    rw [TL.len_tl, TL.len_tl, TL.tl_mk, TL.tl_mk, TL.len_tl]
    simpa using this
theorem part_mem {y : Str} {c : Nat} (x : Str) (hy : TL.tl y ≠ []) : (c ∈ TL.tl (Txt.partition x y).1 → c ∈ TL.tl x) ∧ (c ∈ TL.tl (Txt.partition x y).2.2 → c ∈ TL.tl x) := by
  rw [TL.partition_par x y hy]
  cases e : TL.par (TL.tl y) [] (TL.tl x) with
  | none => exact ⟨id, fun z => by cases z⟩
  | some p =>
    obtain ⟨a, b⟩ := p
    have := par_mem (x := c) _ _ a b e
    show (c ∈ TL.tl ⟨a.toArray⟩ → _) ∧ (c ∈ TL.tl ⟨b.toArray⟩ → _)
    rw [TL.tl_mk, TL.tl_mk]
    simpa using this
/-! ### numbers read -/
def digCh (c : Nat) : Bool := decide (c ∈ digitsL)
def numP (w : Str) : Int := if decide (1 ≤ w.length) && (decide (w.length ≤ 19) && (TL.tl w).all digCh) then ((NumText.digitsVal (TL.tl w) : Nat) : Int) else 0
def refP (w : Str) : Str × Int := ((Txt.partition w " ").1, numP (Txt.partition w " ").2.2)
theorem digCh_iff {c : Nat} : digCh c = true ↔ 48 ≤ c ∧ c ≤ 57 := by
  unfold digCh
  rw [decide_eq_true_eq, mem_digitsL]
theorem numP_of {w : Str} (h1 : 1 ≤ w.length) (h2 : w.length ≤ 19) (h3 : ∀ c ∈ TL.tl w, digCh c = true) : intText? w = some (numP w) ∧ w.length ≤ 640 := by
  have e : numP w = ((NumText.digitsVal (TL.tl w) : Nat) : Int) := by
    unfold numP
    rw [List.all_eq_true.mpr h3]; simp [h1, h2]
  rw [e]
  refine ⟨intText_digits (fun c hc => digCh_iff.mp (h3 c hc)) (fun z => ?_) (by omega), by omega⟩
  rw [TL.len_tl] at h1
  rw [show TL.tl w = [] from z] at h1
  simp at h1
theorem numP_no {w : Str} (h : ¬ (1 ≤ w.length ∧ w.length ≤ 19)) : numP w = 0 := by
  unfold numP
  by_cases h1 : 1 ≤ w.length
  · have h2 : ¬ w.length ≤ 19 := fun z => h ⟨h1, z⟩
    simp [h2]
  · simp [h1]
theorem numP_bad {w : Str} {c : Nat} (h : c ∈ TL.tl w) (n : digCh c = false) : numP w = 0 := by
  have : (TL.tl w).all digCh = false := by
    rw [List.all_eq_false]; exact ⟨c, h, by rw [n]; decide⟩
  unfold numP
  rw [this]; simp
theorem numP_numS {n : Int} (h : NuOk n) : numP (numS n) = n := by
  obtain ⟨m, rfl, h1, h2⟩ := numOk_nat h
  have hl := numS_len (n := (m : Int)) (by omega) (by omega)
  have e1 : 1 ≤ (numS (m : Int)).length := by
    rw [TL.len_tl, tl_numS]
    have := TL.numL_ne m
    cases e : TL.numL m with
    | nil => exact absurd e this
    | cons c r => simp
  have e3 : (TL.tl (numS (m : Int))).all digCh = true := by
    rw [tl_numS, List.all_eq_true]
    exact fun c hc => digCh_iff.mpr (TL.numL_digits m c hc)
  unfold numP
  rw [e3, tl_numS, TL.numL_val]
  simp [e1, hl]
theorem refP_refS {x : Str} {n : Int} (h1 : NmOk x) (h2 : NuOk n) : refP (refS x n) = (x, n) := by
  have ey : TL.tl (" " : Str) = 32 :: [] := rfl
  unfold refP refS
  rw [TL.partition_app ey (nm_free h1 (by decide))]
  show (x, numP (numS n)) = _
  rw [numP_numS h2]
theorem cnt_bound {t : Str} (h : t.length ≤ 400) : 0 ≤ Txt.count t "\n" + 1 ∧ Txt.count t "\n" + 1 ≤ 1000 := by
  rw [count_nl]
  have := List.count_le_length (a := 10) (l := TL.tl t)
  rw [← TL.len_tl] at this
  omega
end K15
/-! the class Letter: made, its fields, its property, its method. -/
namespace K15
open PySem PySem.Spec PyProof.Rows L2
open Evl (Ex ex_rd ex_l ex_t)
set_option autoImplicit false
/-! ### fields -/
section
variable {B : Bx} {τ : List Sl} {te : TE} {P : D → Prop}
theorem wp_fldG {f : Str} {sel : V → V → V → V → V → V} {selD : D → D → D → D → D → D} (hc : Cls B.K B.C) (hn : NoAttr B.K B.C f) (hl : ∀ a n s e b, (ltrFs a n s e b).lookup f = some (sel a n s e b))
    (hs : ∀ (H : Hp) a n s e b va vn vs ve vb, B.rp H a va → B.rp H n vn → B.rp H s vs → B.rp H e ve → B.rp H b vb → B.rp H (selD a n s e b) (sel va vn vs ve vb))
    (h : WP B te τ fun d => ∃ a n s e b, d = .ltr a n s e b ∧ P (selD a n s e b)) : WP B (tFld B.K te f) τ P := fun m O0 H0 A σ H hG R Q q => by
  refine h m O0 H0 A σ H hG R _ fun v H1 d s1 r1 h1 => ?_
  obtain ⟨a, n, s, e, b, ed, p⟩ := h1
  subst ed
  obtain ⟨x, dx, va, vn, vs, ve, vb, ev, hx, r2, r3, r4, r5, r6⟩ := r1
  exact ⟨x, B.C, dx, _, _, ev, Er.sub _ _ hx, hc, hn, hl va vn vs ve vb, q _ H1 _ s1 (hs _ a n s e b va vn vs ve vb r2 r3 r4 r5 r6) p⟩
theorem wp_author (hc : Cls B.K B.C) (hn : NoAttr B.K B.C "author") (h : WP B te τ fun d => ∃ a n s e b, d = .ltr a n s e b ∧ P a) : WP B (tFld B.K te "author") τ P :=
  wp_fldG (sel := fun a _ _ _ _ => a) (selD := fun a _ _ _ _ => a) hc hn (fun _ _ _ _ _ => rfl) (fun _ _ _ _ _ _ _ _ _ _ _ h _ _ _ _ => h) h
theorem wp_number (hc : Cls B.K B.C) (hn : NoAttr B.K B.C "number") (h : WP B te τ fun d => ∃ a n s e b, d = .ltr a n s e b ∧ P n) : WP B (tFld B.K te "number") τ P :=
  wp_fldG (sel := fun _ n _ _ _ => n) (selD := fun _ n _ _ _ => n) hc hn (fun _ _ _ _ _ => rfl) (fun _ _ _ _ _ _ _ _ _ _ _ _ h _ _ _ => h) h
theorem wp_stamp (hc : Cls B.K B.C) (hn : NoAttr B.K B.C "stamp") (h : WP B te τ fun d => ∃ a n s e b, d = .ltr a n s e b ∧ P s) : WP B (tFld B.K te "stamp") τ P :=
  wp_fldG (sel := fun _ _ s _ _ => s) (selD := fun _ _ s _ _ => s) hc hn (fun _ _ _ _ _ => rfl) (fun _ _ _ _ _ _ _ _ _ _ _ _ _ h _ _ => h) h
theorem wp_seen (hc : Cls B.K B.C) (hn : NoAttr B.K B.C "seen") (h : WP B te τ fun d => ∃ a n s e b, d = .ltr a n s e b ∧ P e) : WP B (tFld B.K te "seen") τ P :=
  wp_fldG (sel := fun _ _ _ e _ => e) (selD := fun _ _ _ e _ => e) hc hn (fun _ _ _ _ _ => rfl) (fun _ _ _ _ _ _ _ _ _ _ _ _ _ _ h _ => h) h
theorem wp_body (hc : Cls B.K B.C) (hn : NoAttr B.K B.C "body") (h : WP B te τ fun d => ∃ a n s e b, d = .ltr a n s e b ∧ P b) : WP B (tFld B.K te "body") τ P :=
  wp_fldG (sel := fun _ _ _ _ b => b) (selD := fun _ _ _ _ b => b) hc hn (fun _ _ _ _ _ => rfl) (fun _ _ _ _ _ _ _ _ _ _ _ _ _ _ _ h => h) h
/-- e.ref -/
theorem wp_ref {f : Fn} (h : WP B te τ fun d => ∃ a n s e b, d = .ltr a n s e b ∧ f [.ltr a n s e b] P) : WP B (tProp B.C (spP B.K B.C f) [] E0 te) τ P := fun m O0 H0 A σ H hG R Q q => by
  refine h m O0 H0 A σ H hG R _ fun v H1 d s1 r1 h1 => ?_
  obtain ⟨a, n, s, e, b, ed, p⟩ := h1
  subst ed
  have r1' := r1
  obtain ⟨x, dx, va, vn, vs, ve, vb, ev, hx, r2, r3, r4, r5, r6⟩ := r1
  have g := (R.step s1).gd
  refine ⟨x, dx, _, ev, Er.sub _ _ hx, A ++ O0, [.ltr a n s e b], P, g.dom, ⟨_, _, rfl, ev ▸ r1', rfl⟩, p, fun v H2 d e r2 p2 => q v H2 d (s1.trans (g.ex e)) r2 p2⟩
/-- e.value() -/
theorem wp_val {f : Fn} (h : WP B te τ fun d => ∃ a n s e b, d = .ltr a n s e b ∧ f [.ltr a n s e b] P) : WP B (tMeth B.C "value" (spP B.K B.C f) [] E0 te tNil) τ P := fun m O0 H0 A σ H hG R Q q => by
  refine h m O0 H0 A σ H hG R _ fun v H1 d s1 r1 h1 => ?_
  obtain ⟨a, n, s, e, b, ed, p⟩ := h1
  subst ed
  have r1' := r1
  obtain ⟨x, dx, va, vn, vs, ve, vb, ev, hx, r2, r3, r4, r5, r6⟩ := r1
  have g := (R.step s1).gd
  refine ⟨x, dx, _, ev, Er.sub _ _ hx, rfl, A ++ O0, [.ltr a n s e b], P, g.dom, ⟨_, _, rfl, r1', rfl⟩, p, fun v H2 d e r2 p2 => q v H2 d (s1.trans (g.ex e)) r2 p2⟩
end
/-! ### the methods -/
/-- what __init__ does -/
def spInit (C : Addr) : Sp := fun vs H Q _ => ∃ (x dx : Addr) (a n s e b : V), vs = [.ref x, a, n, s, e, b] ∧ H x = some (.ins C dx []) ∧ ∀ H', (∀ q, q ≠ x → H' q = H q) → H' x = some (.ins C dx (ltrFs a n s e b)) → Q .non H'
abbrev fRef : Fn := Fn1 fun d P => ∃ a n s e b, d = .ltr a n s e b ∧ P (.tup [a, n])
abbrev fValue : Fn := Fn1 fun d P => ∃ a n s e b, d = .ltr a n s e b ∧ P (.tup [a, n, s, e, b])
def InitOk (P : Program) (w : World) (K : PySem.W.Frag) (mg : Str → Option Value) (base : Heap) (C : Addr) : Prop := ∃ f fd, Mk K C f ∧ FnOk P w K mg base CX0 1 f fd N_init (spInit C) ∧ Binds K fd N_init []
def RefOk (P : Program) (w : World) (K : PySem.W.Frag) (mg : Str → Option Value) (base : Heap) (C : Addr) : Prop := ∃ p f fd, PropOf K C "ref" p f ∧ FnOk P w K mg base CX0 1 f fd N_ref (spP K C fRef) ∧ Binds K fd N_ref []
def ValOk (P : Program) (w : World) (K : PySem.W.Frag) (mg : Str → Option Value) (base : Heap) (C : Addr) : Prop := ∃ f fd, Meth K C "value" f ∧ FnOk P w K mg base CX0 1 f fd N_value (spP K C fValue) ∧ Binds K fd N_value []
section
variable {X : Cx} {C : Addr} {e : Expr} {te : TE} {pos p apos : Pos} {es : List Expr} {t : TA}
theorem pe_rf (R : RefOk X.prog X.w X.K X.mg X.base C) (c : Cls X.K C) (he : PE X e te) (hr : Room 2 X.A) (hab : attributeBase e "ref" X.env (eval e X.env) = eval e X.env := by rfl) : PE X (.Attribute e "ref" pos) (tProp C (spP X.K C fRef) [] E0 te) := by
  obtain ⟨p, f, fd, hp, F, b⟩ := R
  exact pe_prop he c hp F hr b .nil pass0 hab
theorem pe_vl {pl : Sem Bool} (R : ValOk X.prog X.w X.K X.mg X.base C) (c : Cls X.K C) (he : PE X e te) (hr : Room 1 X.A) (ht : eval (.Call (.Attribute e "value" apos) [] [] pos) X.env = (do
      let ov ← eval e X.env
      standAt apos.atName
      let (f, first) ← holding [ov] (getMethod ov "value" pl)
      callWith pos f first (backTo pos (starEach [] X.env)) (backToKw pos (keywordEach [] X.env))) := by rfl) : PE X (.Call (.Attribute e "value" apos) [] [] pos) (tMeth C "value" (spP X.K C fValue) [] E0 te tNil) := by
  obtain ⟨f, fd, hm, F, b⟩ := R
  exact pe_meth0 he c hm F hr b .nil pass0 ht
theorem pe_mk (R : InitOk X.prog X.w X.K X.mg X.base C) (hm : X.mg "Letter" = some (.ref C)) (hr : Room 2 X.A) (ha : PA X (e :: es) t) (hg : Gl X "Letter" := by rfl)
    (he : starEach (e :: es) X.env = (false, eval e X.env) :: starEach es X.env := by rfl) (hpl : (backTo pos (starEach es X.env)).any (·.1) = false := by rfl) : PE X (.Call (.Name "Letter" p) (e :: es) [] pos) (tMake C (spInit C) [] E0 t) := by
  obtain ⟨f, fd, M, F, b⟩ := R
  exact pe_make M F hr hg hm b .nil pass0 ha (by decide) he hpl
end
theorem wp_make {B : Bx} {τ : List Sl} {tr : TA} {P : D → Prop} (h : WA B tr τ fun ds => ∃ a n s e b, ds = [a, n, s, e, b] ∧ P (.ltr a n s e b)) : WP B (tMake B.C (spInit B.C) [] E0 tr) τ P := fun m O0 H0 A σ H hG R Q q => by
  refine h m O0 H0 A σ H hG R _ fun vs H1 ds s1 r1 h1 => ?_
  obtain ⟨a, n, s, e, b, ed, p⟩ := h1
  subst ed
  obtain ⟨va, q1, e1, ra, vn, q2, e2, rn, v3, q3, e3, rs, v4, q4, e4, re, v5, q5, e5, rb, e6⟩ := r1
  subst e6; subst e5; subst e4; subst e3; subst e2; subst e1
  have g := (R.step s1).gd
  intro x dx hx hdx hne
  refine ⟨x, dx, va, vn, v3, v4, v5, rfl, upd_same, fun H' hk hx' => ⟨rfl, ?_⟩⟩
  have ex : Ex H1 H' := fun b o eb => by
    have n1 : b ≠ x := fun z => by rw [z, hx] at eb; cases eb
    have n2 : b ≠ dx := fun z => by rw [z, hdx] at eb; cases eb
    rw [hk b n1, upd_ne n1, upd_ne n2]; exact eb
  have st := g.ex ex
  have er := g.er st
  have nO : x ∉ A ++ O0 := g.new hx
  exact q _ H' (.ltr a n s e b) (s1.trans st) ⟨x, dx, va, vn, v3, v4, v5, rfl, Er.mk nO hx', Rp.mono er _ _ ra, Rp.mono er _ _ rn, Rp.mono er _ _ rs, Rp.mono er _ _ re, Rp.mono er _ _ rb⟩ p
section
variable {Pr : Program} {w : World} {K : PySem.W.Frag} {mg : Str → Option Value} {base : Heap} {C CB : Addr}
theorem ok_init (T : Txt w K mg C CB) : InitOk Pr w K mg base C := by
  obtain ⟨f, fd, F, M, b⟩ := T.d_init
  refine ⟨f, fd, M, F.ok sc_init (fun vs H Q E h => ?_) (fun cdv A outer s H vs Q E hr h => ⟨_, (pss_cons (ps_fld (pv 0) (pv 1) rfl) (pss_cons (ps_fld (pv 0) (pv 2) rfl) (pss_cons (ps_fld (pv 0) (pv 3) rfl) (pss_cons (ps_fld (pv 0) (pv 4) rfl) (pss_one (ps_fld (pv 0) (pv 5) rfl)))))), ?_⟩), b⟩
  · obtain ⟨x, dx, a, n, s, e, b, rfl, _⟩ := h; rfl
  · obtain ⟨x, dx, a, n, s, e, b, rfl, hx, q⟩ := h
    try dsimp only [cxOf]
    refine ⟨a, rfl, _, rfl, x, C, dx, [], rfl, hx, T.lcls, T.no_author, by decide, ?_⟩
    refine ⟨n, rfl, _, rfl, x, C, dx, _, rfl, upd_same, T.lcls, T.no_number, (by show 1 < 1000; decide), ?_⟩
    refine ⟨s, rfl, _, rfl, x, C, dx, _, rfl, upd_same, T.lcls, T.no_stamp, (by show 2 < 1000; decide), ?_⟩
    refine ⟨e, rfl, _, rfl, x, C, dx, _, rfl, upd_same, T.lcls, T.no_seen, (by show 3 < 1000; decide), ?_⟩
    refine ⟨b, rfl, _, rfl, x, C, dx, _, rfl, upd_same, T.lcls, T.no_body, (by show 4 < 1000; decide), ?_⟩
    refine q _ (fun y hy => ?_) (by rw [upd_same]; rfl)
    rw [upd_ne hy, upd_ne hy, upd_ne hy, upd_ne hy, upd_ne hy]
theorem ok_ref (T : Txt w K mg C CB) : RefOk Pr w K mg base C := by
  obtain ⟨p, f, fd, F, hp, b⟩ := T.d_ref
  refine ⟨p, f, fd, hp, F.ok sc_ref (fun vs H Q E h => len_P (n := 1) Fn1.len h) (fun cdv A outer s H vs Q E hr h => ⟨_, (pss_one (ps_ret (pe_tup (pa_cons (pe_fld (pv 0) rfl) (pa_cons (pe_fld (pv 0) rfl) pa_nil))))), body_P h fun ds P hf => ?_⟩), b⟩
  obtain ⟨_, rfl, a, n, s, e, b, rfl, p⟩ := hf
  refine ⟨Nat.le_of_ble_eq_true rfl, ?_⟩
  show WS _ _ [.dat (.ltr a n s e b)] _ _ _ _
  try dsimp only [cxOf]
  refine ws_ret (wp_tup (wa_cons (wp_author T.lcls T.no_author (wp_var rfl ⟨_, _, _, _, _, rfl, wa_cons (wp_number T.lcls T.no_number (wp_var rfl ⟨_, _, _, _, _, rfl, wa_nil ⟨?_, p⟩⟩))⟩))))
  show 2 ≤ 100000
  omega
theorem ok_value (T : Txt w K mg C CB) : ValOk Pr w K mg base C := by
  obtain ⟨f, fd, F, hp, b⟩ := T.d_value
  refine ⟨f, fd, hp, F.ok sc_value (fun vs H Q E h => len_P (n := 1) Fn1.len h) (fun cdv A outer s H vs Q E hr h => ⟨_, (pss_one (ps_ret (pe_tup (pa_cons (pe_fld (pv 0) rfl) (pa_cons (pe_fld (pv 0) rfl) (pa_cons (pe_fld (pv 0) rfl) (pa_cons (pe_fld (pv 0) rfl) (pa_cons (pe_fld (pv 0) rfl) pa_nil)))))))), body_P h fun ds P hf => ?_⟩), b⟩
  obtain ⟨_, rfl, a, n, s, e, b, rfl, p⟩ := hf
  refine ⟨Nat.le_of_ble_eq_true rfl, ?_⟩
  show WS _ _ [.dat (.ltr a n s e b)] _ _ _ _
  try dsimp only [cxOf]
  refine ws_ret (wp_tup (wa_cons (wp_author T.lcls T.no_author (wp_var rfl ⟨_, _, _, _, _, rfl, wa_cons (wp_number T.lcls T.no_number (wp_var rfl ⟨_, _, _, _, _, rfl, wa_cons (wp_stamp T.lcls T.no_stamp (wp_var rfl ⟨_, _, _, _, _, rfl, wa_cons (wp_seen T.lcls T.no_seen (wp_var rfl ⟨_, _, _, _, _, rfl,
    wa_cons (wp_body T.lcls T.no_body (wp_var rfl ⟨_, _, _, _, _, rfl, wa_nil ⟨?_, p⟩⟩))⟩))⟩))⟩))⟩))))
  show 5 ≤ 100000
  omega
end
theorem pmk_bm {X : Cx} {C CB : Addr} {m : Str} {j : Nat} {p p2 pos : Pos} (T : Txt X.w X.K X.mg C CB) (hg : Gl X "BadMail" := by rfl) : PMk X (.Call (.Name "BadMail" p) [.Constant (.str m) j p2] [] pos) (fun _ H Q => Q (.ref CB) none H) := by
  obtain ⟨B, nw, i, bm, F, q⟩ := T.bmx
  exact pmk_own F q T.g_BadMail T.bmk (raises_own T.bmb T.bmt) hg
def refSD : D → D
  | .tup [.str x, .int n] => .str (refS x n)
  | _ => .non
theorem map_refSD (es : List (Str × Int)) : (es.map fun p => refD p.1 p.2).map refSD = (es.map fun p => refS p.1 p.2).map .str := by
  rw [List.map_map, List.map_map]; rfl
/-- the first sign of a text, and the rest -/
@[irreducible] def fst1 (z : Str) : Str := cutS z none (some 1)
@[irreducible] def rest1 (z : Str) : Str := cutS z (some 1) none
section
variable {B : Bx} {τ : List Sl} {te : TE} {P : D → Prop}
theorem wp_fst1 (h : WP B te τ fun d => ∃ z, d = .str z ∧ z.length ≤ 100000 ∧ P (.str (fst1 z))) : WP B (tSl rSlS te tNoPart (tPart (tC (.int 1)))) τ P :=
  wp_slS (h.imp fun d ⟨z, e, hl, p⟩ => ⟨z, e, hl, wo_none (wo_some (wp_int ⟨1, rfl, by unfold fst1 at p; exact p⟩))⟩)
theorem wp_rest1 (h : WP B te τ fun d => ∃ z, d = .str z ∧ z.length ≤ 100000 ∧ P (.str (rest1 z))) : WP B (tSl rSlS te (tPart (tC (.int 1))) tNoPart) τ P :=
  wp_slS (h.imp fun d ⟨z, e, hl, p⟩ => ⟨z, e, hl, wo_some (wp_int ⟨1, rfl, wo_none (by unfold rest1 at p; exact p)⟩)⟩)
end
end K15
/-! rules for the law's drawing: the stream, things that may be any of a kind. -/
namespace K15
open PySem PySem.Spec PyProof.Rows L2
open Evl (Ex ex_rd ex_l ex_t)
open Bod (NmOk NuOk TtOk TxOk)
set_option autoImplicit false
section
variable {B : Bx} {τ : List Sl} {P : KVs → Prop} {tk tv : TE} {r : List (TE × TE)}
theorem wps_nil (h : P []) : WPs B τ [] P := h
theorem wps_cons (h : WP B tk τ fun x => ∃ k, x = .str k ∧ WP B tv τ fun d => WPs B τ r fun kvs => P ((k, d) :: kvs)) : WPs B τ ((tk, tv) :: r) P := h
theorem g_WPs {trs : List (TE × TE)} (h : WPs B τ trs P) : WPs B τ trs P := h
end
def AllInt (g : Int → Prop) (P : D → Prop) : Prop := ∀ i, g i → P (.int i)
def AllStr (g : Str → Prop) (P : D → Prop) : Prop := ∀ x, g x → P (.str x)
def AllLst (g : List Str → Prop) (P : D → Prop) : Prop := ∀ xs, g xs → P (.lst (xs.map .str))
theorem AllInt.mk {g : Int → Prop} {P : D → Prop} (h : ∀ i, g i → P (.int i)) : AllInt g P := h
theorem AllStr.mk {g : Str → Prop} {P : D → Prop} (h : ∀ i, g i → P (.str i)) : AllStr g P := h
theorem AllLst.mk {g : List Str → Prop} {P : D → Prop} (h : ∀ xs, g xs → P (.lst (xs.map .str))) : AllLst g P := h
section
variable {B : Bx} {τ : List Sl} {P : D → Prop} {te : TE} {Rt : D → Prop} {N Bk Ct : List Sl → Prop}
theorem wp_strI {i : Nat} {k : Int} (hi : τ[i]? = some .strm) (hk : k = 0 ∨ k = 1) (p : ∀ d : Int, P (.int d)) : WP B (tOp (rIxL B.K) (tVar i) (tC (.int k))) τ P := fun m O0 H0 A σ H hG R Q q => by
  obtain ⟨a, em, ea⟩ := R.sl i _ hi
  obtain ⟨d, s, hs⟩ := R.st.strm a em
  rcases hk with rfl | rfl
  · exact ⟨_, ea, a, _, 0, .int d, rfl, rfl, .inl (.inl hs), rfl, q _ H (.int d) R.gd.refl rfl (p d)⟩
  · exact ⟨_, ea, a, _, 1, .int s, rfl, rfl, .inl (.inl hs), rfl, q _ H (.int s) R.gd.refl rfl (p s)⟩
theorem ws_strSet {i : Nat} {k : Int} (hi : τ[i]? = some .strm) (hk : k = 0 ∨ k = 1) (h : WP B te τ fun d => ∃ n : Int, d = .int n ∧ N τ) : WS B (tAsg te (gSub (tVar i) (tC (.int k)) rSetL)) τ Rt N Bk Ct := fun m O0 H0 A σ H hG R Dd rt nx bk ct => by
  refine h m O0 H0 A σ H hG R _ fun v H1 d s1 r1 h1 => ?_
  obtain ⟨n, ed, p⟩ := h1
  subst ed
  have ev : v = .int n := r1
  subst ev
  obtain ⟨a, em, ea⟩ := R.sl i _ hi
  have R1 := R.step s1
  obtain ⟨d, s, hs⟩ := s1.strm a em
  have fin : ∀ d' s' : Int, Dd.nx σ (upd H1 a (.lst [.int d', .int s'])) := fun d' s' => by
    have st : Stp m H1 (upd H1 a (.lst [.int d', .int s'])) := ⟨fun b o nb e => by rw [upd_ne (fun z => nb (by rw [z]; exact em.symm))]; exact e, fun b eb => by
      rw [em] at eb; cases eb; exact ⟨d', s', upd_same⟩⟩
    exact nx A σ _ τ (.of (s1.trans st)) (R1.step st) p
  rcases hk with rfl | rfl
  · exact ⟨_, ea, a, _, 0, 0, rfl, rfl, hs, rfl, fin n s⟩
  · exact ⟨_, ea, a, _, 1, 1, rfl, rfl, hs, rfl, fin d n⟩
theorem od_ixT_all {ds : List D} {i : Int} (h0 : 0 ≤ i) (h1 : i < ds.length) (p : ∀ d, ds[i.toNat]? = some d → P d) : OpD B (rIxT B.K) (.tup ds) (.int i) P := by
  obtain ⟨n, rfl⟩ := Int.eq_ofNat_of_zero_le h0
  have hn : n < ds.length := by omega
  exact od_ixT (d := ds[n]) (atI_nat (List.getElem?_eq_getElem hn)) (p _ (List.getElem?_eq_getElem hn))
theorem od_ixL_all {ss : List Str} {i : Int} (h0 : 0 ≤ i) (h1 : i < ss.length) (p : ∀ x, ss[i.toNat]? = some x → P (.str x)) : OpD B (rIxL B.K) (.lst (ss.map .str)) (.int i) P := by
  obtain ⟨n, rfl⟩ := Int.eq_ofNat_of_zero_le h0
  have hn : n < ss.length := by omega
  exact od_ixL (d := .str ss[n]) (atI_nat (by rw [List.getElem?_map, List.getElem?_eq_getElem hn]; rfl)) (p _ (List.getElem?_eq_getElem hn))
theorem od_ixS_all {a : Str} {i : Int} (h : a.length ≤ 100000) (h0 : 0 ≤ i) (h1 : i < a.length) (p : ∀ c, (TL.tl a)[i.toNat]? = some c → P (.str ⟨#[c]⟩)) : OpD B rIxS (.str a) (.int i) P := by
  obtain ⟨n, rfl⟩ := Int.eq_ofNat_of_zero_le h0
  have hn : n < (TL.tl a).length := by rw [← TL.len_tl]; omega
  exact od_ixS (c := (TL.tl a)[n]) h (atI_nat (List.getElem?_eq_getElem hn)) (p _ (List.getElem?_eq_getElem hn))
theorem od_pow9 (p : P (.int 1000000000)) : OpD B (rI CPow fun i j => .int (i ^ j.toNat)) (.int 10) (.int 9) P := od_intC (C := CPow) ⟨by decide, by decide, by decide⟩ (by
  have e : ((10 : Int) ^ (9 : Int).toNat) = 1000000000 := by decide
  rw [e]; exact p)
theorem od_pow18 (p : P (.int 1000000000000000000)) : OpD B (rI CPow fun i j => .int (i ^ j.toNat)) (.int 10) (.int 18) P := od_intC (C := CPow) ⟨by decide, by decide, by decide⟩ (by
  have e : ((10 : Int) ^ (18 : Int).toNat) = 1000000000000000000 := by decide
  rw [e]; exact p)
theorem od_modC {i j : Int} (h : 0 < j) (p : P (.int (i % j))) : OpD B (rI (fun _ j => 0 < j) fun i j => .int (i % j)) (.int i) (.int j) P := od_intC (C := fun _ j => 0 < j) h p
theorem od_divC {i j : Int} (h : 0 < j ∧ j < 1073741824) (p : P (.int (i / j))) : OpD B (rI CDiv fun i j => .int (i / j)) (.int i) (.int j) P := od_intC (C := CDiv) h p
theorem od_mulC {i j : Int} (h : -(2 ^ 64) < j ∧ j < 2 ^ 64) (p : P (.int (i * j))) : OpD B (rI CMul fun i j => .int (i * j)) (.int i) (.int j) P := od_intC (C := CMul) (.inr h) p
end
end K15
/-! pure: what the program makes of header lines; a letter's own lines give the letter back. -/
namespace K15
open PySem PySem.Spec PyProof.Rows L2
open Bod (NmOk NuOk TtOk TxOk)
set_option autoImplicit false
/-! ### letters back from data -/
def bodOf : D → Bod
  | .tup [.str k, .str t, .tup ms] => .found t (ms.map strD)
  | .tup [.str k, .tup [.str x, .int n], .str t] => if k = "reply" then .reply x n t else if k = "edit" then .edit x n t else .mark x n t
  | .tup [.str k, .tup [.str x, .int n]] => .recall x n
  | .tup [.str k, .str t] => if k = "say" then .say t else if k = "title" then .title t else if k = "add" then .add t else if k = "cut" then .cut t else .hand t
  | _ => .seen
theorem bodOf_d (b : Bod) : bodOf b.d = b := by
  cases b with
  | found t ms =>
    show Bod.found t ((ms.map D.str).map strD) = _
    rw [List.map_map]
    congr 1
    exact List.map_id _
  | _ => rfl
def esOf (d : D) : List (Str × Int) := (tupD d).map fun d => match d with | .tup [.str x, .int n] => (x, n) | _ => (Str.empty, 0)
theorem esOf_d (es : List (Str × Int)) : esOf (.tup (es.map fun p => refD p.1 p.2)) = es := by
  unfold esOf
  show ((es.map fun p => refD p.1 p.2)).map _ = es
  rw [List.map_map]
  exact List.map_id _
theorem ltr_inj {L M : Ltr} (h : L.d = M.d) : L = M := by
  obtain ⟨a, n, s, es, b⟩ := L
  obtain ⟨a', n', s', es', b'⟩ := M
  simp only [Ltr.d, D.tup.injEq, List.cons.injEq, D.str.injEq, D.int.injEq, and_true] at h
  obtain ⟨h1, h2, h3, h4, h5⟩ := h
  have e4 : es = es' := by
    have := esOf_d es
    rw [h4] at this
    rw [← this]; exact esOf_d es'
  have e5 : b = b' := by
    have := bodOf_d b
    have h5' : b.d = b'.d := by unfold Bod.d; rw [h5.1, h5.2]
    rw [h5'] at this
    rw [← this]; exact bodOf_d b'
  subst h1 h2 h3 e4 e5
  rfl
/-! ### fields -/
def wordOf (l : Str) : Str := (Txt.partition l ": ").1
def restOf (l : Str) : Str := (Txt.partition l ": ").2.2
def fieldsP (heads : List Str) : KVs := heads.foldl (fun kv l => putP kv (wordOf l) (.str (restOf l))) []
def fget (kvs : KVs) (k : Str) : Str := match getP kvs k with | some (.str x) => x | _ => Str.empty
def bodyP (f : KVs) (tx : D) : D :=
  if fget f "Kind" = "found" then .tup [.str "found", .str (fget f "Title"), .tup (if fget f "Members" = "" then [] else (Txt.split (fget f "Members") ", ").map .str)]
  else if fget f "Kind" = "title" then .tup [.str "title", .str (fget f "Title")]
  else if fget f "Kind" = "say" then .tup [.str "say", tx]
  else if fget f "Kind" = "reply" then .tup [.str "reply", refD (refP (fget f "Ref")).1 (refP (fget f "Ref")).2, tx]
  else if fget f "Kind" = "edit" then .tup [.str "edit", refD (refP (fget f "Ref")).1 (refP (fget f "Ref")).2, tx]
  else if fget f "Kind" = "recall" then .tup [.str "recall", refD (refP (fget f "Ref")).1 (refP (fget f "Ref")).2]
  else if fget f "Kind" = "mark" then .tup [.str "mark", refD (refP (fget f "Ref")).1 (refP (fget f "Ref")).2, .str (fget f "Word")]
  else if fget f "Kind" = "add" then .tup [.str "add", .str (fget f "Name")]
  else if fget f "Kind" = "cut" then .tup [.str "cut", .str (fget f "Name")]
  else if fget f "Kind" = "hand" then .tup [.str "hand", .str (fget f "Name")]
  else .tup [.str (fget f "Kind")]
def candP (heads : List Str) (tx : D) : D :=
  .tup [.str (refP (fget (fieldsP heads) "From")).1, .int (refP (fget (fieldsP heads) "From")).2, .int (numP (fget (fieldsP heads) "Stamp")),
    .tup ((Txt.split (fget (fieldsP heads) "Seen") ", ").map fun w => refD (refP w).1 (refP w).2), bodyP (fieldsP heads) tx]
theorem word_rest {w l : Str} (r : Str) (h : 58 ∉ TL.tl w) (e : l = w ++ ": ") : wordOf (l ++ r) = w ∧ restOf (l ++ r) = r := by
  have ey : TL.tl (": " : Str) = 58 :: [32] := rfl
  have := TL.partition_app ey (a := w) (b := r) h
  subst e
  unfold wordOf restOf
  rw [this]; exact ⟨rfl, rfl⟩
theorem wFrom (r : Str) : wordOf ("From: " ++ r) = "From" ∧ restOf ("From: " ++ r) = r := word_rest r (by decide +kernel) rfl
theorem wStamp (r : Str) : wordOf ("Stamp: " ++ r) = "Stamp" ∧ restOf ("Stamp: " ++ r) = r := word_rest r (by decide +kernel) rfl
theorem wSeen (r : Str) : wordOf ("Seen: " ++ r) = "Seen" ∧ restOf ("Seen: " ++ r) = r := word_rest r (by decide +kernel) rfl
theorem wKind (r : Str) : wordOf ("Kind: " ++ r) = "Kind" ∧ restOf ("Kind: " ++ r) = r := word_rest r (by decide +kernel) rfl
theorem wTitle (r : Str) : wordOf ("Title: " ++ r) = "Title" ∧ restOf ("Title: " ++ r) = r := word_rest r (by decide +kernel) rfl
theorem wMembers (r : Str) : wordOf ("Members: " ++ r) = "Members" ∧ restOf ("Members: " ++ r) = r := word_rest r (by decide +kernel) rfl
theorem wRef (r : Str) : wordOf ("Ref: " ++ r) = "Ref" ∧ restOf ("Ref: " ++ r) = r := word_rest r (by decide +kernel) rfl
theorem wLines (r : Str) : wordOf ("Lines: " ++ r) = "Lines" ∧ restOf ("Lines: " ++ r) = r := word_rest r (by decide +kernel) rfl
theorem wWord (r : Str) : wordOf ("Word: " ++ r) = "Word" ∧ restOf ("Word: " ++ r) = r := word_rest r (by decide +kernel) rfl
theorem wName (r : Str) : wordOf ("Name: " ++ r) = "Name" ∧ restOf ("Name: " ++ r) = r := word_rest r (by decide +kernel) rfl
/-- the fields of the four first lines, and the body's -/
def fields4 (L : Ltr) : KVs := [("From", .str (refS L.a L.n)), ("Stamp", .str (numS L.s)), ("Seen", .str (seenS L.es)), ("Kind", .str L.b.kind)]
theorem fields_4 (L : Ltr) (more : List Str) : fieldsP (["From: " ++ refS L.a L.n, "Stamp: " ++ numS L.s, "Seen: " ++ seenS L.es, "Kind: " ++ L.b.kind] ++ more) = more.foldl (fun kv l => putP kv (wordOf l) (.str (restOf l))) (fields4 L) := by
  unfold fieldsP
  rw [List.foldl_append]
  congr 1
  simp only [List.foldl_cons, List.foldl_nil, (wFrom _).1, (wFrom _).2, (wStamp _).1, (wStamp _).2, (wSeen _).1, (wSeen _).2, (wKind _).1, (wKind _).2]
  rfl
theorem split_names {ms : List Str} (hne : ms ≠ []) (h : ∀ m ∈ ms, NmOk m) : Txt.split (Txt.join ", " ms) ", " = ms :=
  TL.split_join (y := ", ") (s := 44) (S := [32]) rfl (by decide +kernel) hne fun p hp => nm_free (h p hp) (by decide)
theorem refS_free {x : Str} {n : Int} (h1 : NmOk x) (h2 : NuOk n) : 44 ∉ TL.tl (refS x n) := fun z => by
  obtain ⟨m, rfl, _, _⟩ := numOk_nat h2
  unfold refS at z
  rw [TL.tl_append, TL.tl_append, tl_numS] at z
  rcases List.mem_append.mp z with z | z
  · rcases List.mem_append.mp z with z | z
    · exact nm_free h1 (by decide) z
    · revert z; decide +kernel
  · exact TL.numL_free (.inl (by decide)) z
theorem split_seen {es : List (Str × Int)} (hne : es ≠ []) (h : ∀ p ∈ es, NmOk p.1 ∧ NuOk p.2) : Txt.split (seenS es) ", " = es.map fun p => refS p.1 p.2 := by
  refine TL.split_join (y := ", ") (s := 44) (S := [32]) rfl (by decide +kernel) (fun z => hne (List.map_eq_nil_iff.mp z)) fun p hp => ?_
  obtain ⟨q, hq, rfl⟩ := List.mem_map.mp hp
  exact refS_free (h q hq).1 (h q hq).2
theorem join_ne {ms : List Str} (hne : ms ≠ []) (h : ∀ m ∈ ms, NmOk m) : ¬ Txt.join ", " ms = "" := fun z => by
  have e := split_names hne h
  rw [z] at e
  have : Txt.split (Str.ofString "") (Str.ofString ", ") = [Str.ofString ""] := by
    have := TL.split_join (y := ", ") (s := 44) (S := [32]) rfl (by decide +kernel) (parts := [Str.ofString ""]) (by simp) (fun p hp => by rw [List.mem_singleton.mp hp]; decide +kernel)
    exact this
  rw [this] at e
  subst e
  have := nm_len1 (h "" List.mem_cons_self)
  revert this
  decide
theorem body_back (L : Ltr) (hb : L.b.ok) : bodyP (fieldsP L.hdr) L.b.txtD = L.b.d := by
  unfold Ltr.hdr
  rw [fields_4]
  obtain ⟨a, n, s, es, b⟩ := L
  cases b with
  | found t ms =>
    show bodyP (["Title: " ++ t, "Members: " ++ Txt.join ", " ms].foldl _ _) _ = _
    simp only [List.foldl_cons, List.foldl_nil, (wTitle _).1, (wTitle _).2, (wMembers _).1, (wMembers _).2]
    show D.tup [.str "found", .str t, .tup (if Txt.join ", " ms = "" then [] else (Txt.split (Txt.join ", " ms) ", ").map .str)] = _
    by_cases hm : ms = []
    · subst hm; rfl
    · rw [if_neg (join_ne hm hb.2.2.1), split_names hm hb.2.2.1]
  | say t =>
    show bodyP ([linesS t].foldl _ _) _ = _
    unfold linesS
    simp only [List.foldl_cons, List.foldl_nil, (wLines _).1, (wLines _).2]
    rfl
  | reply x n t =>
    show bodyP (["Ref: " ++ refS x n, linesS t].foldl _ _) _ = _
    unfold linesS
    simp only [List.foldl_cons, List.foldl_nil, (wRef _).1, (wRef _).2, (wLines _).1, (wLines _).2]
    show D.tup [.str "reply", refD (refP (refS x n)).1 (refP (refS x n)).2, .str t] = _
    rw [refP_refS hb.1.1 hb.1.2]
  | edit x n t =>
    show bodyP (["Ref: " ++ refS x n, linesS t].foldl _ _) _ = _
    unfold linesS
    simp only [List.foldl_cons, List.foldl_nil, (wRef _).1, (wRef _).2, (wLines _).1, (wLines _).2]
    show D.tup [.str "edit", refD (refP (refS x n)).1 (refP (refS x n)).2, .str t] = _
    rw [refP_refS hb.1.1 hb.1.2]
  | recall x n =>
    show bodyP (["Ref: " ++ refS x n].foldl _ _) _ = _
    simp only [List.foldl_cons, List.foldl_nil, (wRef _).1, (wRef _).2]
    show D.tup [.str "recall", refD (refP (refS x n)).1 (refP (refS x n)).2] = _
    rw [refP_refS hb.1 hb.2]
  | mark x n y =>
    show bodyP (["Ref: " ++ refS x n, "Word: " ++ y].foldl _ _) _ = _
    simp only [List.foldl_cons, List.foldl_nil, (wRef _).1, (wRef _).2, (wWord _).1, (wWord _).2]
    show D.tup [.str "mark", refD (refP (refS x n)).1 (refP (refS x n)).2, .str y] = _
    rw [refP_refS hb.1.1 hb.1.2]
  | title t =>
    show bodyP (["Title: " ++ t].foldl _ _) _ = _
    simp only [List.foldl_cons, List.foldl_nil, (wTitle _).1, (wTitle _).2]
    rfl
  | add x =>
    show bodyP (["Name: " ++ x].foldl _ _) _ = _
    simp only [List.foldl_cons, List.foldl_nil, (wName _).1, (wName _).2]
    rfl
  | cut x =>
    show bodyP (["Name: " ++ x].foldl _ _) _ = _
    simp only [List.foldl_cons, List.foldl_nil, (wName _).1, (wName _).2]
    rfl
  | hand x =>
    show bodyP (["Name: " ++ x].foldl _ _) _ = _
    simp only [List.foldl_cons, List.foldl_nil, (wName _).1, (wName _).2]
    rfl
  | seen => rfl
theorem get_put_ne {kvs : KVs} {k j : Str} {d : D} (h : ¬ j = k) : getP (putP kvs j d) k = getP kvs k := by
  unfold putP
  split
  · rename_i ha
    clear ha
    induction kvs with
    | nil => rfl
    | cons p r ih =>
      rw [List.map_cons]
      by_cases e : p.1 = j
      · rw [if_pos e]
        show (if p.1 = k then some d else _) = (if p.1 = k then some p.2 else _)
        rw [e, if_neg h, if_neg h]; exact ih
      · rw [if_neg e]
        show (if p.1 = k then some p.2 else _) = (if p.1 = k then some p.2 else _)
        rw [ih]
  · rename_i ha
    clear ha
    induction kvs with
    | nil => show (if j = k then some d else none) = none; rw [if_neg h]
    | cons p r ih =>
      show (if p.1 = k then some p.2 else getP (r ++ [(j, d)]) k) = (if p.1 = k then some p.2 else getP r k)
      rw [ih]
/-- words that the body's lines bear -/
theorem lines_words (b : Bod) : ∀ l ∈ b.lines, wordOf l ≠ "From" ∧ wordOf l ≠ "Stamp" ∧ wordOf l ≠ "Seen" ∧ wordOf l ≠ "Kind" := by
  have key : ∀ (l : Str), (∃ r, l = "Title: " ++ r ∨ l = "Members: " ++ r ∨ l = "Ref: " ++ r ∨ l = "Lines: " ++ r ∨ l = "Word: " ++ r ∨ l = "Name: " ++ r) → wordOf l ≠ "From" ∧ wordOf l ≠ "Stamp" ∧ wordOf l ≠ "Seen" ∧ wordOf l ≠ "Kind" := by
    rintro l ⟨r, rfl | rfl | rfl | rfl | rfl | rfl⟩
    · rw [(wTitle r).1]; decide +kernel
    · rw [(wMembers r).1]; decide +kernel
    · rw [(wRef r).1]; decide +kernel
    · rw [(wLines r).1]; decide +kernel
    · rw [(wWord r).1]; decide +kernel
    · rw [(wName r).1]; decide +kernel
  intro l hl
  refine key l ?_
  cases b <;> simp only [Bod.lines, List.mem_cons, List.not_mem_nil, or_false] at hl
  · rcases hl with rfl | rfl
    · exact ⟨_, .inl rfl⟩
    · exact ⟨_, .inr (.inl rfl)⟩
  · subst hl; exact ⟨_, .inr (.inr (.inr (.inl rfl)))⟩
  · rcases hl with rfl | rfl
    · exact ⟨_, .inr (.inr (.inl rfl))⟩
    · exact ⟨_, .inr (.inr (.inr (.inl rfl)))⟩
  · rcases hl with rfl | rfl
    · exact ⟨_, .inr (.inr (.inl rfl))⟩
    · exact ⟨_, .inr (.inr (.inr (.inl rfl)))⟩
  · subst hl; exact ⟨_, .inr (.inr (.inl rfl))⟩
  · rcases hl with rfl | rfl
    · exact ⟨_, .inr (.inr (.inl rfl))⟩
    · exact ⟨_, .inr (.inr (.inr (.inr (.inl rfl))))⟩
  · subst hl; exact ⟨_, .inl rfl⟩
  · subst hl; exact ⟨_, .inr (.inr (.inr (.inr (.inr rfl))))⟩
  · subst hl; exact ⟨_, .inr (.inr (.inr (.inr (.inr rfl))))⟩
  · subst hl; exact ⟨_, .inr (.inr (.inr (.inr (.inr rfl))))⟩
theorem fold_ne {k : Str} : ∀ (ls : List Str) (kvs : KVs), (∀ l ∈ ls, wordOf l ≠ k) → getP (ls.foldl (fun kv l => putP kv (wordOf l) (.str (restOf l))) kvs) k = getP kvs k
  | [], _, _ => rfl
  | l :: r, kvs, h => by
    rw [List.foldl_cons, fold_ne r _ fun x hx => h x (List.mem_cons_of_mem _ hx), get_put_ne (h l List.mem_cons_self)]
theorem cand_back (L : Ltr) (h : L.ok) : candP L.hdr L.b.txtD = L.d := by
  have hw := lines_words L.b
  have eF : fget (fieldsP L.hdr) "From" = refS L.a L.n := by
    unfold fget Ltr.hdr
    rw [fields_4, fold_ne _ _ fun l hl => (hw l hl).1]; rfl
  have eS : fget (fieldsP L.hdr) "Stamp" = numS L.s := by
    unfold fget Ltr.hdr
    rw [fields_4, fold_ne _ _ fun l hl => (hw l hl).2.1]; rfl
  have eE : fget (fieldsP L.hdr) "Seen" = seenS L.es := by
    unfold fget Ltr.hdr
    rw [fields_4, fold_ne _ _ fun l hl => (hw l hl).2.2.1]; rfl
  have hne : L.es ≠ [] := fun z => by have := h.me; rw [z] at this; cases this
  unfold candP
  rw [eF, eS, eE, refP_refS h.a h.n, numP_numS h.s, split_seen hne h.es, body_back L h.b, List.map_map]
  have : (L.es.map ((fun w => refD (refP w).1 (refP w).2) ∘ fun p => refS p.1 p.2)) = L.es.map fun p => refD p.1 p.2 := by
    refine List.map_congr_left fun p hp => ?_
    show refD (refP (refS p.1 p.2)).1 (refP (refS p.1 p.2)).2 = _
    rw [refP_refS (h.es p hp).1 (h.es p hp).2]
  rw [this]
/-! ### folded lines -/
def unfStep (acc : List Str) (l : Str) : Option (List Str) :=
  if fst1 l = " " then (if acc = [] then none else some (acc.set (acc.length - 1) (acc.getD (acc.length - 1) Str.empty ++ l))) else some (acc ++ [l])
def unfL (acc : List Str) : List Str → Option (List Str)
  | [] => some acc
  | l :: r => match unfStep acc l with
    | none => none
    | some a => unfL a r
theorem unfL_cons {acc : List Str} {l : Str} {r : List Str} : unfL acc (l :: r) = match unfStep acc l with | none => none | some a => unfL a r := rfl
theorem unf_no {acc : List Str} {l : Str} (h : ¬ fst1 l = " ") : unfStep acc l = some (acc ++ [l]) := by unfold unfStep; rw [if_neg h]
theorem unf_bad {l : Str} (h : fst1 l = " ") : unfStep [] l = none := by unfold unfStep; rw [if_pos h, if_pos rfl]
theorem unf_yes {acc : List Str} {l : Str} (h : fst1 l = " ") (hn : acc ≠ []) : unfStep acc l = some (acc.set (acc.length - 1) (acc.getD (acc.length - 1) Str.empty ++ l)) := by unfold unfStep; rw [if_pos h, if_neg hn]
/-- a dict whose things are texts of a modest size -/
def AllS (kvs : KVs) : Prop := ∀ p ∈ kvs, ∃ x, p.2 = .str x ∧ StrS x
theorem getP_mem {k : Str} {d : D} : ∀ {kvs : KVs}, getP kvs k = some d → ∃ p ∈ kvs, p.2 = d
  | [], h => by cases h
  | p :: r, h => by
    have h : (if p.1 = k then some p.2 else getP r k) = some d := h
    split at h
    · exact ⟨p, List.mem_cons_self, Option.some.inj h⟩
    · obtain ⟨q, hq, e⟩ := getP_mem h
      exact ⟨q, List.mem_cons_of_mem _ hq, e⟩
theorem strS_empty : StrS Str.empty := ⟨Nat.zero_le _, fun c hc => by cases hc⟩
theorem fget_ok {kvs : KVs} (h : AllS kvs) (k : Str) : StrS (fget kvs k) ∧ (getP kvs k).getD (.str Str.empty) = .str (fget kvs k) := by
  unfold fget
  cases e : getP kvs k with
  | none => exact ⟨strS_empty, rfl⟩
  | some d =>
    obtain ⟨p, hp, e1⟩ := getP_mem e
    obtain ⟨x, e2, hx⟩ := h p hp
    rw [← e1, e2]
    exact ⟨hx, rfl⟩
theorem AllS.put {kvs : KVs} {k x : Str} (h : AllS kvs) (hx : StrS x) : AllS (putP kvs k (.str x)) := fun p hp => by
  unfold putP at hp
  split at hp
  · obtain ⟨q, hq, rfl⟩ := List.mem_map.mp hp
    split
    · exact ⟨x, rfl, hx⟩
    · exact h q hq
  · rcases List.mem_append.mp hp with z | z
    · exact h p z
    · rw [List.mem_singleton.mp z]; exact ⟨x, rfl, hx⟩
theorem wp_fget {B : Bx} {τ : List Sl} {td : TE} {P : D → Prop} {k : Str} (h : WP B td τ fun d => ∃ kvs, d = dctP kvs ∧ AllS kvs ∧ P (.str (fget kvs k))) : WP B (tDGet2 td (tC (.str k)) (tC (.str ""))) τ P :=
  wp_dget2 (h.imp fun d ⟨kvs, e, hs, p⟩ => ⟨kvs, e, wp_str ⟨k, rfl, wp_str (by
    have e := (fget_ok hs k).2
    rw [show (Str.ofString "") = Str.empty from rfl, e]; exact p)⟩⟩)
theorem sp_ne : TL.tl (": " : Str) ≠ [] := fun z => by cases z
theorem strS_part {l : Str} (h : StrS l) : StrS (wordOf l) ∧ StrS (restOf l) := by
  have a := part_len (y := ": ") l sp_ne
  exact ⟨⟨Nat.le_trans a.1 h.1, fun c hc => h.2 c ((part_mem (y := ": ") l sp_ne).1 hc)⟩, ⟨Nat.le_trans a.2 h.1, fun c hc => h.2 c ((part_mem (y := ": ") l sp_ne).2 hc)⟩⟩
/-! ### parts of a text -/
theorem spl_parts {S : List Nat} : ∀ (l acc : List Nat) (k : Nat), (TL.spl S k acc l).length ≤ l.length + 1 ∧ ∀ p ∈ TL.spl S k acc l, p.length ≤ acc.length + l.length ∧ ∀ c ∈ p, c ∈ acc ∨ c ∈ l
  | [], acc, k => by
    rw [TL.spl_nil]
    refine ⟨Nat.le_refl _, fun p hp => ?_⟩
    rw [List.mem_singleton.mp hp]
    exact ⟨Nat.le_refl _, fun c hc => .inl hc⟩
  | c :: r, acc, 0 => by
    by_cases h : TL.pre S (c :: r) = true
    · rw [TL.spl_hit h]
      obtain ⟨h1, h2⟩ := spl_parts (S := S) r [] (S.length - 1)
      refine ⟨by simp only [List.length_cons]; omega, fun p hp => ?_⟩
      rcases List.mem_cons.mp hp with z | z
      · rw [z]; exact ⟨by omega, fun c hc => .inl hc⟩
      · obtain ⟨q1, q2⟩ := h2 p z
        refine ⟨by simp only [List.length_nil, List.length_cons] at q1 ⊢; omega, fun c' hc => ?_⟩
        rcases q2 c' hc with w | w
        · cases w
        · exact .inr (List.mem_cons_of_mem _ w)
    · rw [TL.spl_miss (by simpa using h)]
      obtain ⟨h1, h2⟩ := spl_parts (S := S) r (acc ++ [c]) 0
      refine ⟨by simp only [List.length_cons]; omega, fun p hp => ?_⟩
      obtain ⟨q1, q2⟩ := h2 p hp
      refine ⟨by simp only [List.length_append, List.length_cons, List.length_nil] at q1 ⊢; omega, fun c' hc => ?_⟩
      rcases q2 c' hc with w | w
      · rcases List.mem_append.mp w with w | w
        · exact .inl w
        · rw [List.mem_singleton.mp w]; exact .inr List.mem_cons_self
      · exact .inr (List.mem_cons_of_mem _ w)
  | c :: r, acc, k + 1 => by
    show (TL.spl S k acc r).length ≤ _ ∧ ∀ p ∈ TL.spl S k acc r, _
    obtain ⟨h1, h2⟩ := spl_parts (S := S) r acc k
    refine ⟨by simp only [List.length_cons]; omega, fun p hp => ?_⟩
    obtain ⟨q1, q2⟩ := h2 p hp
    refine ⟨by simp only [List.length_cons]; omega, fun c' hc => (q2 c' hc).imp id (List.mem_cons_of_mem _)⟩
theorem split_parts (x y : Str) (hy : TL.tl y ≠ []) (hk : y.cps.all (· < 256) = true) : (Txt.split x y).length ≤ x.length + 1 ∧ ∀ p ∈ Txt.split x y, p.length ≤ x.length ∧ ∀ c ∈ TL.tl p, c ∈ TL.tl x := by
  have e := TL.split_spl x y hy (TL.kind_ok hk)
  obtain ⟨h1, h2⟩ := spl_parts (S := TL.tl y) (TL.tl x) [] 0
  rw [← e] at h1 h2
  rw [List.length_map, ← TL.len_tl] at h1
  refine ⟨h1, fun p hp => ?_⟩
  obtain ⟨q1, q2⟩ := h2 (TL.tl p) (List.mem_map_of_mem hp)
  rw [TL.len_tl, TL.len_tl]
  refine ⟨by simpa using q1, fun c hc => ?_⟩
  rcases q2 c hc with w | w
  · cases w
  · exact w
theorem strS_split {x y : Str} (hy : TL.tl y ≠ []) (hk : y.cps.all (· < 256) = true) (h : StrS x) : ∀ p ∈ Txt.split x y, StrS p := fun p hp => by
  obtain ⟨q1, q2⟩ := (split_parts x y hy hk).2 p hp
  exact ⟨Nat.le_trans q1 h.1, fun c hc => h.2 c (q2 c hc)⟩
theorem strS_refP {w : Str} (h : StrS w) : StrS (refP w).1 := by
  have hn : TL.tl (" " : Str) ≠ [] := fun z => by cases z
  exact ⟨Nat.le_trans (part_len (y := " ") w hn).1 h.1, fun c hc => h.2 c ((part_mem (y := " ") w hn).1 hc)⟩
theorem sm_refP {w : Str} (h : StrS w) : Sm (refD (refP w).1 (refP w).2) := ⟨(by decide : 2 ≤ 50000), strS_refP h, trivial, trivial⟩
theorem sm_two {a b : D} (h1 : Sm a) (h2 : Sm b) : Sm (.tup [a, b]) := ⟨(by decide : 2 ≤ 50000), h1, h2, trivial⟩
theorem sm_one {a : D} (h1 : Sm a) : Sm (.tup [a]) := ⟨(by decide : 1 ≤ 50000), h1, trivial⟩
theorem sm_three {a b c : D} (h1 : Sm a) (h2 : Sm b) (h3 : Sm c) : Sm (.tup [a, b, c]) := ⟨(by decide : 3 ≤ 50000), h1, h2, h3, trivial⟩
theorem sm_bodyP {kvs : KVs} {tx : D} (h : AllS kvs) (ht : Sm tx) (hm : (fget kvs "Members").length < 50000) : Sm (bodyP kvs tx) := by
  have lit : ∀ s : Str, s.length ≤ 10 → (TL.tl s).all (· < 128) = true → Sm (.str s) := fun s h1 h2 => ⟨Nat.le_trans h1 (by decide), fun c hc => by have := List.all_eq_true.mp h2 c hc; simpa using this⟩
  have f := fun k => (fget_ok h k).1
  unfold bodyP
  repeat' split
  · refine sm_three (lit _ (Nat.le_of_ble_eq_true rfl) (by decide +kernel)) (f "Title") ⟨Nat.zero_le _, trivial⟩
  · refine sm_three (lit _ (Nat.le_of_ble_eq_true rfl) (by decide +kernel)) (f "Title") ⟨?_, SmL.strs (strS_split (fun z => by cases z) (by decide +kernel) (f "Members"))⟩
    rw [List.length_map]
    have := (split_parts (fget kvs "Members") ", " (fun z => by cases z) (by decide +kernel)).1
    omega
  · exact sm_two (lit _ (Nat.le_of_ble_eq_true rfl) (by decide +kernel)) (f "Title")
  · exact sm_two (lit _ (Nat.le_of_ble_eq_true rfl) (by decide +kernel)) ht
  · exact sm_three (lit _ (Nat.le_of_ble_eq_true rfl) (by decide +kernel)) (sm_refP (f "Ref")) ht
  · exact sm_three (lit _ (Nat.le_of_ble_eq_true rfl) (by decide +kernel)) (sm_refP (f "Ref")) ht
  · exact sm_two (lit _ (Nat.le_of_ble_eq_true rfl) (by decide +kernel)) (sm_refP (f "Ref"))
  · exact sm_three (lit _ (Nat.le_of_ble_eq_true rfl) (by decide +kernel)) (sm_refP (f "Ref")) (f "Word")
  · exact sm_two (lit _ (Nat.le_of_ble_eq_true rfl) (by decide +kernel)) (f "Name")
  · exact sm_two (lit _ (Nat.le_of_ble_eq_true rfl) (by decide +kernel)) (f "Name")
  · exact sm_two (lit _ (Nat.le_of_ble_eq_true rfl) (by decide +kernel)) (f "Name")
  · exact sm_one (f "Kind")
theorem AllS.fields {heads : List Str} (h : ∀ l ∈ heads, StrS l) : AllS (fieldsP heads) := by
  have : ∀ (ls : List Str) (kvs : KVs), (∀ l ∈ ls, StrS l) → AllS kvs → AllS (ls.foldl (fun kv l => putP kv (wordOf l) (.str (restOf l))) kvs) := by
    intro ls
    induction ls with
    | nil => intro kvs _ h; exact h
    | cons l r ih => intro kvs hl h; exact ih _ (fun x hx => hl x (List.mem_cons_of_mem _ hx)) (h.put (strS_part (hl l List.mem_cons_self)).2)
  exact this heads [] h (fun _ h => nomatch h)
theorem fieldsP_snoc (heads : List Str) (l : Str) : fieldsP (heads ++ [l]) = putP (fieldsP heads) (wordOf l) (.str (restOf l)) := by
  unfold fieldsP; rw [List.foldl_append]; rfl
theorem putP_len (kvs : KVs) (k : Str) (d : D) : (putP kvs k d).length ≤ kvs.length + 1 := by
  unfold putP
  split
  · rw [List.length_map]; omega
  · rw [List.length_append]; exact Nat.le_refl _
theorem fieldsP_len (heads : List Str) : (fieldsP heads).length ≤ heads.length := by
  have : ∀ (ls : List Str) (kvs : KVs), (ls.foldl (fun kv l => putP kv (wordOf l) (.str (restOf l))) kvs).length ≤ kvs.length + ls.length := by
    intro ls
    induction ls with
    | nil => intro kvs; exact Nat.le_refl _
    | cons l r ih =>
      intro kvs
      have := ih (putP kvs (wordOf l) (.str (restOf l)))
      have := putP_len kvs (wordOf l) (.str (restOf l))
      rw [List.foldl_cons, List.length_cons]; omega
  have := this heads []
  unfold fieldsP
  simpa using this
theorem restOf_len (l : Str) : (restOf l).length ≤ l.length := (part_len (y := ": ") l sp_ne).2
theorem fget_len {heads : List Str} {n : Nat} (h : ∀ l ∈ heads, l.length ≤ n) (k : Str) : (fget (fieldsP heads) k).length ≤ n := by
  have : ∀ (ls : List Str) (kvs : KVs), (∀ l ∈ ls, l.length ≤ n) → (∀ p ∈ kvs, (strD p.2).length ≤ n) → ∀ p ∈ ls.foldl (fun kv l => putP kv (wordOf l) (.str (restOf l))) kvs, (strD p.2).length ≤ n := by
    intro ls
    induction ls with
    | nil => intro kvs _ h; exact h
    | cons l r ih =>
      intro kvs hl h
      refine ih _ (fun x hx => hl x (List.mem_cons_of_mem _ hx)) fun p hp => ?_
      have hr := Nat.le_trans (restOf_len l) (hl l List.mem_cons_self)
      replace hp : p ∈ putP kvs (wordOf l) (.str (restOf l)) := hp
      unfold putP at hp
      split at hp
      · obtain ⟨q, hq, rfl⟩ := List.mem_map.mp hp
        split
        · exact hr
        · exact h q hq
      · rcases List.mem_append.mp hp with z | z
        · exact h p z
        · rw [List.mem_singleton.mp z]; exact hr
  unfold fget
  split
  · rename_i x e
    obtain ⟨p, hp, ep⟩ := getP_mem e
    have := this heads [] h (fun _ h => nomatch h) p hp
    rw [ep] at this; exact this
  · exact Nat.zero_le _
@[reducible] def txO : Option Str → D
  | some t => .str t
  | none => .non
theorem txO_d (b : Bod) : b.txtD = txO b.text := by
  unfold Bod.txtD
  cases b.text <;> rfl
theorem od_neO {B : Bx} {P : D → Prop} {a b : Option Str} (p : P (.bl (!decide (a = b)))) : OpD B rNe (txO a) (txO b) P := by
  cases a with
  | none =>
    cases b with
    | none => exact od_neNN p
    | some y => exact od_neNS p
  | some x =>
    cases b with
    | none => exact od_neSN p
    | some y => exact od_neS (by
        have e : decide (some x = some y) = decide (x = y) := by simp
        rw [e] at p; exact p)
/-! ### rows of texts compared -/
theorem shp_strs {ss : List Str} (h : ∀ s ∈ ss, ∀ c ∈ TL.tl s, c < 128) : (D.lst (ss.map .str)).shp := by
  refine ⟨?_, ?_⟩
  · show D.ordL (ss.map .str) = true
    clear h
    induction ss with
    | nil => rfl
    | cons s r ih => exact ih
  · unfold SeqAt.shaped
    have h1 : (D.lst (ss.map .str)).py.canLay0 = true := by
      simp only [D.py, PyData.canLay0]
      induction ss with
      | nil => rfl
      | cons s r ih =>
        simp only [List.map_cons, D.pyL, D.py, PyData.canLayAll0, PyData.canLay0]
        rw [ih fun x hx => h x (List.mem_cons_of_mem _ hx), Bool.and_true]
        unfold PyData.strOk
        rw [Array.all_eq_true']
        intro c hc
        have := h s List.mem_cons_self c (Array.mem_toList_iff.mpr hc)
        simp; omega
    have h2 : (D.lst (ss.map .str)).py.depth ≤ 1 := dep_lst (n := 0) fun d hd => by
      obtain ⟨s, _, rfl⟩ := List.mem_map.mp hd
      exact dep_str
    rw [h1]; simp; omega
theorem pure_strs (ss : List Str) : (D.lst (ss.map .str)).pure = true := by
  show D.pureL (ss.map .str) = true
  exact pureL_of fun d hd => by
    obtain ⟨s, _, rfl⟩ := List.mem_map.mp hd
    rfl
theorem strs_inj {xs ys : List Str} (h : xs.map D.str = ys.map D.str) : xs = ys := by
  have := congrArg (List.map strD) h
  rw [List.map_map, List.map_map] at this
  rwa [show (strD ∘ D.str) = id from rfl, List.map_id, List.map_id] at this
theorem eqv_strs (xs ys : List Str) : PyData.eqv (D.lst (xs.map .str)).py (D.lst (ys.map .str)).py = decide (xs = ys) := by
  rw [Bool.eq_iff_iff, eqv_iff _ _ (pure_strs xs) (pure_strs ys), decide_eq_true_eq]
  exact ⟨fun h => strs_inj (by injection h), fun h => by rw [h]⟩
/-! ### a letter's lines are plain -/
theorem num_ch {n : Int} (h0 : 0 ≤ n) : ∀ c ∈ TL.tl (numS n), c < 128 := fun c hc => by
  obtain ⟨m, rfl⟩ := Int.eq_ofNat_of_zero_le h0
  rw [tl_numS] at hc
  have := TL.numL_digits m c hc
  omega
theorem nm_ch128 {x : Str} (h : NmOk x) : ∀ c ∈ TL.tl x, c < 128 := fun c hc => by
  have := nmCh_iff.mp (nm_ch h hc)
  omega
theorem app_ch {x y : Str} (h1 : ∀ c ∈ TL.tl x, c < 128) (h2 : ∀ c ∈ TL.tl y, c < 128) : ∀ c ∈ TL.tl (x ++ y), c < 128 := fun c hc => by
  rw [TL.tl_append] at hc
  rcases List.mem_append.mp hc with z | z
  · exact h1 c z
  · exact h2 c z
theorem lit_ch {s : Str} (h : (TL.tl s).all (· < 128) = true) : ∀ c ∈ TL.tl s, c < 128 := fun c hc => by have := List.all_eq_true.mp h c hc; simpa using this
theorem join_ch {S : Str} (hS : ∀ c ∈ TL.tl S, c < 128) : ∀ {ss : List Str}, (∀ s ∈ ss, ∀ c ∈ TL.tl s, c < 128) → ∀ c ∈ TL.tl (Txt.join S ss), c < 128 := fun {ss} h => by
  rw [TL.join_eq, TL.tl_join]
  induction ss with
  | nil => intro c hc; cases hc
  | cons x r ih =>
    cases r with
    | nil => intro c hc; exact h x List.mem_cons_self c hc
    | cons y q =>
      intro c hc
      have e : TL.joinL (TL.tl S) ((x :: y :: q).map TL.tl) = TL.tl x ++ (TL.tl S ++ TL.joinL (TL.tl S) ((y :: q).map TL.tl)) := rfl
      rw [e] at hc
      rcases List.mem_append.mp hc with z | z
      · exact h x List.mem_cons_self c z
      · rcases List.mem_append.mp z with z | z
        · exact hS c z
        · exact ih (fun s hs => h s (List.mem_cons_of_mem _ hs)) c z
theorem refS_ch {x : Str} {n : Int} (h1 : NmOk x) (h2 : NuOk n) : ∀ c ∈ TL.tl (refS x n), c < 128 := by
  obtain ⟨m, rfl, _, _⟩ := numOk_nat h2
  exact app_ch (app_ch (nm_ch128 h1) (lit_ch (by decide +kernel))) (num_ch (by omega))
theorem tt_ch {t : Str} (h : TtOk t) : ∀ c ∈ TL.tl t, c < 128 := fun c hc => by
  have h : (decide (t.length ≤ 60) && plainL (TL.tl t)) = true := h
  simp only [Bool.and_eq_true, decide_eq_true_eq] at h
  have := List.all_eq_true.mp h.2 c hc
  unfold plCh at this
  simp only [Bool.and_eq_true, decide_eq_true_eq] at this
  omega
theorem linesS_ch (t : Str) : ∀ c ∈ TL.tl (linesS t), c < 128 := by
  refine app_ch (lit_ch (by decide +kernel)) (num_ch ?_)
  rw [count_nl]; omega
theorem hdr_ch {L : Ltr} (h : L.ok) : ∀ s ∈ L.hdr, ∀ c ∈ TL.tl s, c < 128 := by
  intro s hs
  unfold Ltr.hdr at hs
  rcases List.mem_append.mp hs with z | z
  · obtain ⟨m, em, _, _⟩ := numOk_nat h.s
    simp only [List.mem_cons, List.not_mem_nil, or_false] at z
    rcases z with rfl | rfl | rfl | rfl
    · exact app_ch (lit_ch (by decide +kernel)) (refS_ch h.a h.n)
    · exact app_ch (lit_ch (by decide +kernel)) (num_ch (by omega))
    · refine app_ch (lit_ch (by decide +kernel)) (join_ch (lit_ch (by decide +kernel)) fun s hs => ?_)
      obtain ⟨p, hp, rfl⟩ := List.mem_map.mp hs
      exact refS_ch (h.es p hp).1 (h.es p hp).2
    · refine app_ch (lit_ch (by decide +kernel)) ?_
      cases L.b <;> exact lit_ch (by rfl)
  · have hb := h.b
    revert hb z
    cases L.b <;> intro z hb <;> simp only [Bod.lines, List.mem_cons, List.not_mem_nil, or_false] at z
    · rcases z with rfl | rfl
      · exact app_ch (lit_ch (by decide +kernel)) (tt_ch hb.1)
      · exact app_ch (lit_ch (by decide +kernel)) (join_ch (lit_ch (by decide +kernel)) fun s hs => nm_ch128 (hb.2.2.1 s hs))
    · subst z; exact linesS_ch _
    · rcases z with rfl | rfl
      · exact app_ch (lit_ch (by decide +kernel)) (refS_ch hb.1.1 hb.1.2)
      · exact linesS_ch _
    · rcases z with rfl | rfl
      · exact app_ch (lit_ch (by decide +kernel)) (refS_ch hb.1.1 hb.1.2)
      · exact linesS_ch _
    · subst z; exact app_ch (lit_ch (by decide +kernel)) (refS_ch hb.1 hb.2)
    · rcases z with rfl | rfl
      · exact app_ch (lit_ch (by decide +kernel)) (refS_ch hb.1.1 hb.1.2)
      · exact app_ch (lit_ch (by decide +kernel)) (nm_ch128 hb.2)
    · subst z; exact app_ch (lit_ch (by decide +kernel)) (tt_ch hb)
    · subst z; exact app_ch (lit_ch (by decide +kernel)) (nm_ch128 hb)
    · subst z; exact app_ch (lit_ch (by decide +kernel)) (nm_ch128 hb)
    · subst z; exact app_ch (lit_ch (by decide +kernel)) (nm_ch128 hb)
end K15
namespace K15
open PySem PySem.Spec PyProof.Rows L2
open Evl (Ex ex_rd ex_l ex_t)
open CwR
set_option autoImplicit false
local macro_rules | `(tactic| walk_at "gWS") => `(tactic| (with_reducible refine ws_raise ?_))
local macro_rules | `(tactic| walk_at "gWS") => `(tactic| ((with_reducible refine ws_dput (kvs := ?kvs) ?h ?p); (case h => rfl)))
local macro_rules | `(tactic| walk_at "gWS") => `(tactic| (with_reducible refine ws_ifT ?_))
local macro_rules | `(tactic| walk_at "gWS") => `(tactic| (with_reducible refine ws_break ?_))
local macro_rules | `(tactic| walk_at "gWS") => `(tactic| (with_reducible refine ws_drop ?_))
local macro_rules | `(tactic| walk_at "gWS") => `(tactic| ((with_reducible refine ws_app (ss := ?ss) ?h ?p); (case h => rfl)))
local macro_rules | `(tactic| walk_at "gWS") => `(tactic| (with_reducible refine ws_for ?_))
local macro_rules | `(tactic| walk_at "gWS") => `(tactic| (with_reducible refine ws_next ?_))
local macro_rules | `(tactic| walk_at "gWS") => `(tactic| (with_reducible refine ws_asg ?_))
local macro_rules | `(tactic| walk_at "gWS") => `(tactic| ((with_reducible refine ws_setI (ss := ?ss) ?h ?p); (case h => rfl)))
local macro_rules | `(tactic| walk_at "gWS") => `(tactic| ((with_reducible refine ws_strSet ?h ?k ?p); (case h => rfl); (case k => first | exact Or.inl rfl | exact Or.inr rfl)))
local macro_rules | `(tactic| walk_at "gWS") => `(tactic| ((with_reducible refine ws_newd ?_ ?_); (· exact Nat.le_of_ble_eq_true rfl)))
local macro_rules | `(tactic| walk_at "gWS") => `(tactic| ((with_reducible refine ws_new ?_ ?_); (· exact Nat.le_of_ble_eq_true rfl)))
local macro_rules | `(tactic| walk_at "gWS") => `(tactic| (with_reducible refine ws_ret ?_))
local macro_rules | `(tactic| walk_at "gWS") => `(tactic| (with_reducible refine ws_ifF ?_))
local macro_rules | `(tactic| walk_at "gWS") => `(tactic| (with_reducible refine ws_seq ?_))
local macro_rules | `(tactic| walk_at "gWS") => `(tactic| (walk_at "own"))
local macro_rules | `(tactic| walk_at "gWP") => `(tactic| (walk_at "fld"))
local macro_rules | `(tactic| walk_at "gWP") => `(tactic| (with_reducible refine wp_val ?_))
local macro_rules | `(tactic| walk_at "gWP") => `(tactic| (with_reducible refine wp_ref ?_))
local macro_rules | `(tactic| walk_at "gWP") => `(tactic| (with_reducible refine wp_make ?_))
local macro_rules | `(tactic| walk_at "gWP") => `(tactic| (with_reducible refine wp_callE ?_))
local macro_rules | `(tactic| walk_at "gWP") => `(tactic| (with_reducible refine wp_din ?_))
local macro_rules | `(tactic| walk_at "gWP") => `(tactic| (with_reducible refine wp_dget ?_))
local macro_rules | `(tactic| walk_at "gWP") => `(tactic| (with_reducible refine wp_dget1 ?_))
local macro_rules | `(tactic| walk_at "gWP") => `(tactic| (with_reducible refine wp_dget2 ?_))
local macro_rules | `(tactic| walk_at "gWP") => `(tactic| (with_reducible refine wp_fget ?_))
local macro_rules | `(tactic| walk_at "gWP") => `(tactic| (with_reducible refine wp_disp ?_))
local macro_rules | `(tactic| walk_at "gWP") => `(tactic| (with_reducible refine wp_repl ?_))
local macro_rules | `(tactic| walk_at "gWP") => `(tactic| (with_reducible refine wp_parts ?_))
local macro_rules | `(tactic| walk_at "gWP") => `(tactic| (with_reducible refine wp_un ?_))
local macro_rules | `(tactic| walk_at "gWP") => `(tactic| (with_reducible refine wp_lc ?_))
local macro_rules | `(tactic| walk_at "gWP") => `(tactic| ((with_reducible refine wp_callG ?_ ?_); (· rfl)))
local macro_rules | `(tactic| walk_at "gWP") => `(tactic| (with_reducible refine wp_slL ?_))
local macro_rules | `(tactic| walk_at "gWP") => `(tactic| (with_reducible refine wp_slS ?_))
local macro_rules | `(tactic| walk_at "gWP") => `(tactic| (with_reducible refine wp_rest1 ?_))
local macro_rules | `(tactic| walk_at "gWP") => `(tactic| (with_reducible refine wp_fst1 ?_))
local macro_rules | `(tactic| walk_at "gWP") => `(tactic| (with_reducible refine wp_if ?_))
local macro_rules | `(tactic| walk_at "gWP") => `(tactic| (with_reducible refine wp_notV ?_))
local macro_rules | `(tactic| walk_at "gWP") => `(tactic| (with_reducible refine wp_orV ?_))
local macro_rules | `(tactic| walk_at "gWP") => `(tactic| (with_reducible refine wp_chain ?_))
local macro_rules | `(tactic| walk_at "gWP") => `(tactic| (with_reducible refine wp_lst ?_))
local macro_rules | `(tactic| walk_at "gWP") => `(tactic| (with_reducible refine wp_m1 ?_))
local macro_rules | `(tactic| walk_at "gWP") => `(tactic| (with_reducible refine wp_tup ?_))
local macro_rules | `(tactic| walk_at "gWP") => `(tactic| (with_reducible refine wp_andV ?_))
local macro_rules | `(tactic| walk_at "gWP") => `(tactic| (with_reducible refine wp_call ?_))
local macro_rules | `(tactic| walk_at "gWP") => `(tactic| (with_reducible refine wp_cb ?_))
local macro_rules | `(tactic| walk_at "gWP") => `(tactic| (with_reducible refine wp_isiT ?_))
local macro_rules | `(tactic| walk_at "gWP") => `(tactic| (with_reducible refine wp_isiB ?_))
local macro_rules | `(tactic| walk_at "gWP") => `(tactic| (with_reducible refine wp_isiI ?_))
local macro_rules | `(tactic| walk_at "gWP") => `(tactic| (with_reducible refine wp_isiS ?_))
local macro_rules | `(tactic| walk_at "gWP") => `(tactic| (with_reducible refine wp_non ?_))
local macro_rules | `(tactic| walk_at "gWP") => `(tactic| (with_reducible refine wp_bl ?_))
local macro_rules | `(tactic| walk_at "gWP") => `(tactic| (with_reducible refine wp_int ?_))
local macro_rules | `(tactic| walk_at "gWP") => `(tactic| (with_reducible refine wp_str ?_))
local macro_rules | `(tactic| walk_at "gWP") => `(tactic| (with_reducible refine wp_op ?_))
local macro_rules | `(tactic| walk_at "gWP") => `(tactic| ((with_reducible refine wp_var (d := ?d) ?h ?p); (case h => rfl)))
local macro_rules | `(tactic| walk_at "gWP") => `(tactic| ((with_reducible refine wp_strI ?h ?k ?p); (case h => rfl); (case k => first | exact Or.inl rfl | exact Or.inr rfl); (intro _)))
local macro_rules | `(tactic| walk_at "gWT") => `(tactic| (with_reducible refine wt_or ?_))
local macro_rules | `(tactic| walk_at "gWT") => `(tactic| (with_reducible refine wt_and ?_))
local macro_rules | `(tactic| walk_at "gWT") => `(tactic| (with_reducible refine wt_not ?_))
local macro_rules | `(tactic| walk_at "gWT") => `(tactic| (with_reducible refine wt_B ?_))
local macro_rules | `(tactic| walk_at "gWT") => `(tactic| (with_reducible refine wt_test ?_))
local macro_rules | `(tactic| walk_at "gWA") => `(tactic| (with_reducible refine wa_cons ?_))
local macro_rules | `(tactic| walk_at "gWA") => `(tactic| (with_reducible refine wa_nil ?_))
local macro_rules | `(tactic| walk_at "gWO") => `(tactic| (with_reducible refine wo_some ?_))
local macro_rules | `(tactic| walk_at "gWO") => `(tactic| (with_reducible refine wo_none ?_))
local macro_rules | `(tactic| walk_at "gWI") => `(tactic| (with_reducible refine wi_enum ?_))
local macro_rules | `(tactic| walk_at "gWI") => `(tactic| (with_reducible refine wi_r2 ?_))
local macro_rules | `(tactic| walk_at "gWI") => `(tactic| (with_reducible refine wi_r1 ?_))
local macro_rules | `(tactic| walk_at "gWI") => `(tactic| (with_reducible refine wi_str ?_))
local macro_rules | `(tactic| walk_at "gWI") => `(tactic| (with_reducible refine wi_tup ?_))
local macro_rules | `(tactic| walk_at "gWI") => `(tactic| (with_reducible refine wi_list ?_))
local macro_rules | `(tactic| walk_at "gWG") => `(tactic| (with_reducible refine wg_tup ?_))
local macro_rules | `(tactic| walk_at "gWG") => `(tactic| ((with_reducible refine wg_name ?_ ?_); (· exact Nat.le_of_ble_eq_true rfl)))
local macro_rules | `(tactic| walk_at "gWGs") => `(tactic| (with_reducible refine wgs_cons ?_))
local macro_rules | `(tactic| walk_at "gWGs") => `(tactic| (with_reducible refine wgs_nil ?_))
local macro_rules | `(tactic| walk_at "gWPs") => `(tactic| (with_reducible refine wps_nil ?_))
local macro_rules | `(tactic| walk_at "gWPs") => `(tactic| (with_reducible refine wps_cons ?_))
local macro_rules | `(tactic| walk_at "gOpD") => `(tactic| ((with_reducible refine od_addS ?_ ?_); (· walk_at "len")))
local macro_rules | `(tactic| walk_at "gOpD") => `(tactic| ((with_reducible refine od_mulC ?_ ?_); (· walk_at "len")))
local macro_rules | `(tactic| walk_at "gOpD") => `(tactic| ((with_reducible refine od_divC ?_ ?_); (· walk_at "len")))
local macro_rules | `(tactic| walk_at "gOpD") => `(tactic| ((with_reducible refine od_modC ?_ ?_); (· walk_at "len")))
local macro_rules | `(tactic| walk_at "gOpD") => `(tactic| ((with_reducible refine od_ixL (d := ?d) ?e ?p); (case e => rfl)))
local macro_rules | `(tactic| walk_at "gOpD") => `(tactic| ((with_reducible refine od_ixT (d := ?d) ?e ?p); (case e => rfl)))
local macro_rules | `(tactic| walk_at "gOpD") => `(tactic| (with_reducible refine od_ixL0 ?_))
local macro_rules | `(tactic| walk_at "gOpD") => `(tactic| (with_reducible refine od_ixT0 ?_))
local macro_rules | `(tactic| walk_at "gOpD") => `(tactic| ((with_reducible refine od_niL ?_ ?_); (· rfl)))
local macro_rules | `(tactic| walk_at "gOpD") => `(tactic| ((with_reducible refine od_niT ?_ ?_); (· rfl)))
local macro_rules | `(tactic| walk_at "gOpD") => `(tactic| ((with_reducible refine od_inL ?_ ?_); (· rfl)))
local macro_rules | `(tactic| walk_at "gOpD") => `(tactic| ((with_reducible refine od_inT ?_ ?_); (· rfl)))
local macro_rules | `(tactic| walk_at "gOpD") => `(tactic| (with_reducible refine od_notN ?_))
local macro_rules | `(tactic| walk_at "gOpD") => `(tactic| (with_reducible refine od_isN ?_))
local macro_rules | `(tactic| walk_at "gOpD") => `(tactic| (with_reducible refine od_notInS ?_))
local macro_rules | `(tactic| walk_at "gOpD") => `(tactic| (with_reducible refine od_inS ?_))
local macro_rules | `(tactic| walk_at "gOpD") => `(tactic| (with_reducible refine od_gtS ?_))
local macro_rules | `(tactic| walk_at "gOpD") => `(tactic| (with_reducible refine od_leS ?_))
local macro_rules | `(tactic| walk_at "gOpD") => `(tactic| (with_reducible refine od_ltS ?_))
local macro_rules | `(tactic| walk_at "gOpD") => `(tactic| (with_reducible refine od_neNN ?_))
local macro_rules | `(tactic| walk_at "gOpD") => `(tactic| (with_reducible refine od_neSN ?_))
local macro_rules | `(tactic| walk_at "gOpD") => `(tactic| (with_reducible refine od_neNS ?_))
local macro_rules | `(tactic| walk_at "gOpD") => `(tactic| (with_reducible refine od_neNI ?_))
local macro_rules | `(tactic| walk_at "gOpD") => `(tactic| (with_reducible refine od_neI ?_))
local macro_rules | `(tactic| walk_at "gOpD") => `(tactic| (with_reducible refine od_neP parts_seen ?_))
local macro_rules | `(tactic| walk_at "gOpD") => `(tactic| (with_reducible refine od_neP parts_hand ?_))
local macro_rules | `(tactic| walk_at "gOpD") => `(tactic| (with_reducible refine od_neP parts_cut ?_))
local macro_rules | `(tactic| walk_at "gOpD") => `(tactic| (with_reducible refine od_neP parts_add ?_))
local macro_rules | `(tactic| walk_at "gOpD") => `(tactic| (with_reducible refine od_neP parts_title ?_))
local macro_rules | `(tactic| walk_at "gOpD") => `(tactic| (with_reducible refine od_neP parts_mark ?_))
local macro_rules | `(tactic| walk_at "gOpD") => `(tactic| (with_reducible refine od_neP parts_recall ?_))
local macro_rules | `(tactic| walk_at "gOpD") => `(tactic| (with_reducible refine od_neP parts_edit ?_))
local macro_rules | `(tactic| walk_at "gOpD") => `(tactic| (with_reducible refine od_neP parts_reply ?_))
local macro_rules | `(tactic| walk_at "gOpD") => `(tactic| (with_reducible refine od_neP parts_say ?_))
local macro_rules | `(tactic| walk_at "gOpD") => `(tactic| (with_reducible refine od_neP parts_found ?_))
local macro_rules | `(tactic| walk_at "gOpD") => `(tactic| (with_reducible refine od_eqI ?_))
local macro_rules | `(tactic| walk_at "gOpD") => `(tactic| (with_reducible refine od_cmp ?_))
local macro_rules | `(tactic| walk_at "gOpD") => `(tactic| (with_reducible refine od_int ?_))
local macro_rules | `(tactic| walk_at "gOpD") => `(tactic| (with_reducible refine od_neS ?_))
local macro_rules | `(tactic| walk_at "gOpD") => `(tactic| (with_reducible refine od_eqS ?_))
local macro_rules | `(tactic| walk_at "gOpD") => `(tactic| (with_reducible refine od_pow18 ?_))
local macro_rules | `(tactic| walk_at "gOpD") => `(tactic| (with_reducible refine od_pow9 ?_))
local macro_rules | `(tactic| walk_at "gCallD") => `(tactic| (with_reducible refine cd_tup ?_))
local macro_rules | `(tactic| walk_at "gCallD") => `(tactic| (with_reducible refine cd_list ?_))
local macro_rules | `(tactic| walk_at "gCallD") => `(tactic| (with_reducible refine cd_max2 ?_))
local macro_rules | `(tactic| walk_at "gCallD") => `(tactic| (with_reducible refine cd_min2 ?_))
local macro_rules | `(tactic| walk_at "gCallD") => `(tactic| (with_reducible refine cd_int1 ?_))
local macro_rules | `(tactic| walk_at "gCallD") => `(tactic| ((with_reducible refine cd_strI ?_ ?_); (· walk_at "log")))
local macro_rules | `(tactic| walk_at "gCallD") => `(tactic| (with_reducible refine cd_ord ?_))
local macro_rules | `(tactic| walk_at "gCallD") => `(tactic| (with_reducible refine cd_lenScr ?_))
local macro_rules | `(tactic| walk_at "gCallD") => `(tactic| (with_reducible refine cd_lenT ?_))
local macro_rules | `(tactic| walk_at "gCallD") => `(tactic| (with_reducible refine cd_lenL ?_))
local macro_rules | `(tactic| walk_at "gCallD") => `(tactic| ((with_reducible refine cd_lenS ?_ ?_); (· walk_at "len")))
local macro_rules | `(tactic| walk_at "gMtD") => `(tactic| ((with_reducible refine md_split ?a ?h ?p); (case a => rfl); (case h => walk_at "len")))
local macro_rules | `(tactic| walk_at "gMtD") => `(tactic| ((with_reducible refine md_part ?a ?h ?p); (case a => rfl); (case h => walk_at "len")))
local macro_rules | `(tactic| walk_at "gMtD") => `(tactic| ((with_reducible refine md_joinL (ss := ?ss) ?h ?p); (case h => walk_at "len")))
local macro_rules | `(tactic| walk_at "gMtD") => `(tactic| ((with_reducible refine md_joinT (ss := ?ss) ?h ?p); (case h => walk_at "len")))
local macro_rules | `(tactic| walk_at "gMtD") => `(tactic| (with_reducible refine md_count ?_))
local macro_rules | `(tactic| walk_at "gAnd") => `(tactic| ((with_reducible refine ⟨?_, ?_⟩); (· walk_at "side")))
local macro_rules | `(tactic| walk_at "gAnd") => `(tactic| ((with_reducible refine if_is (v := false) ?e ?h); (case e => first | rfl | assumption)))
local macro_rules | `(tactic| walk_at "gAnd") => `(tactic| ((with_reducible refine if_is (v := true) ?e ?h); (case e => first | rfl | assumption)))
local macro_rules | `(tactic| walk_at "gAnd") => `(tactic| (with_reducible refine if_nT (by assumption) ?_))
local macro_rules | `(tactic| walk_at "gAnd") => `(tactic| (with_reducible refine if_nF (by assumption) ?_))
local macro_rules | `(tactic| walk_at "gAnd") => `(tactic| (with_reducible refine if_f ?_))
local macro_rules | `(tactic| walk_at "gAnd") => `(tactic| (with_reducible refine if_t ?_))
local macro_rules | `(tactic| walk_at "gEx") => `(tactic| refine ⟨_, _, rfl, ?_⟩)
local macro_rules | `(tactic| walk_at "gEx") => `(tactic| refine ⟨_, rfl, ?_⟩)
local macro_rules | `(tactic| walk_at "gEx") => `(tactic| (with_reducible refine ⟨_, _, _, _, _, rfl, ?_⟩))
local macro_rules | `(tactic| walk_at "gEx") => `(tactic| (with_reducible refine ⟨_, _, _, _, rfl, ?_⟩))
local macro_rules | `(tactic| walk_at "gEx") => `(tactic| (with_reducible refine ⟨_, _, _, rfl, ?_⟩))
local macro_rules | `(tactic| walk_at "gEx") => `(tactic| (with_reducible refine ⟨_, _, rfl, ?_⟩))
local macro_rules | `(tactic| walk_at "gEx") => `(tactic| (with_reducible refine ⟨_, rfl, ?_⟩))
local macro_rules | `(tactic| walk_at "w1") => `(tactic| ((with_reducible refine g_Ex ?_); walk_at "gEx"))
local macro_rules | `(tactic| walk_at "w1") => `(tactic| ((with_reducible refine g_And ?_); walk_at "gAnd"))
local macro_rules | `(tactic| walk_at "w1") => `(tactic| ((with_reducible refine AllLst.mk ?_); (intro _ _)))
local macro_rules | `(tactic| walk_at "w1") => `(tactic| ((with_reducible refine AllStr.mk ?_); (intro _ _)))
local macro_rules | `(tactic| walk_at "w1") => `(tactic| ((with_reducible refine AllInt.mk ?_); (intro _ _)))
local macro_rules | `(tactic| walk_at "w1") => `(tactic| (with_reducible refine Fn4.mk ?_))
local macro_rules | `(tactic| walk_at "w1") => `(tactic| (with_reducible refine Fn3.mk ?_))
local macro_rules | `(tactic| walk_at "w1") => `(tactic| (with_reducible refine Fn2.mk ?_))
local macro_rules | `(tactic| walk_at "w1") => `(tactic| (with_reducible refine Fn1.mk ?_))
local macro_rules | `(tactic| walk_at "w1") => `(tactic| (with_reducible refine Fn0.mk ?_))
local macro_rules | `(tactic| walk_at "w1") => `(tactic| ((with_reducible refine g_MtD ?_); walk_at "gMtD"))
local macro_rules | `(tactic| walk_at "w1") => `(tactic| ((with_reducible refine g_CallD ?_); walk_at "gCallD"))
local macro_rules | `(tactic| walk_at "w1") => `(tactic| ((with_reducible refine g_OpD ?_); walk_at "gOpD"))
local macro_rules | `(tactic| walk_at "w1") => `(tactic| ((with_reducible refine g_WPs ?_); walk_at "gWPs"))
local macro_rules | `(tactic| walk_at "w1") => `(tactic| ((with_reducible refine g_WGs ?_); walk_at "gWGs"))
local macro_rules | `(tactic| walk_at "w1") => `(tactic| ((with_reducible refine g_WG ?_); walk_at "gWG"))
local macro_rules | `(tactic| walk_at "w1") => `(tactic| ((with_reducible refine g_WI ?_); walk_at "gWI"))
local macro_rules | `(tactic| walk_at "w1") => `(tactic| ((with_reducible refine g_WO ?_); walk_at "gWO"))
local macro_rules | `(tactic| walk_at "w1") => `(tactic| ((with_reducible refine g_WA ?_); walk_at "gWA"))
local macro_rules | `(tactic| walk_at "w1") => `(tactic| ((with_reducible refine g_WT ?_); walk_at "gWT"))
local macro_rules | `(tactic| walk_at "w1") => `(tactic| ((with_reducible refine g_WP ?_); walk_at "gWP"))
local macro_rules | `(tactic| walk_at "w1") => `(tactic| ((with_reducible refine g_WS ?_); walk_at "gWS"))
local macro_rules | `(tactic| walk_at "side") => `(tactic| (exact by decide +kernel))
local macro_rules | `(tactic| walk_at "side") => `(tactic| (walk_at "len"))
local macro_rules | `(tactic| walk_at "side") => `(tactic| exact Sm.pl (by assumption))
local macro_rules | `(tactic| walk_at "side") => `(tactic| exact ⟨_, rfl⟩)
local macro_rules | `(tactic| walk_at "side") => `(tactic| assumption)
local macro_rules | `(tactic| walk_at "side") => `(tactic| rfl)
local macro_rules | `(tactic| walk_at "len") => `(tactic| (simp only [slen_app, slen_one, List.length_append, List.length_map, List.length_cons, List.length_nil]; omega))
local macro_rules | `(tactic| walk_at "len") => `(tactic| omega)
local macro_rules | `(tactic| walk_at "len") => `(tactic| assumption)
local macro_rules | `(tactic| walk_at "own") => `(tactic| fail)
local macro_rules | `(tactic| walk_at "fld") => `(tactic| fail)
local macro_rules | `(tactic| walk_at "log") => `(tactic| assumption)
local macro_rules | `(tactic| walk_at "w") => `(tactic| repeat (walk_at "w1"))
section
open PySem PySem.Spec PyProof.Rows L2
open Evl (Ex ex_rd ex_l ex_t)
open CwR
set_option autoImplicit false
open Bod (NmOk NuOk TtOk TxOk)
section
variable {Pr : Program} {w : World} {K : PySem.W.Frag} {mg : Str → Option Value} {base : Heap} {C CB : Addr}
theorem PtoI {P : D → Prop} {a b : Int} (p : P (.int a)) (e : a = b) : P (.int b) := by rw [← e]; exact p
theorem PtoS {P : D → Prop} {a b : Str} (p : P (.str a)) (e : a = b) : P (.str b) := by rw [← e]; exact p
theorem PtoD {P : D → Prop} {a b : D} (p : P a) (e : a = b) : P b := by rw [← e]; exact p
abbrev fTarget : Fn := Fn1 fun d P => ∃ b : Bod, d = b.d ∧ P b.refO
abbrev fTextOf : Fn := Fn1 fun d P => ∃ b : Bod, d = b.d ∧ P b.txtD
abbrev fRefW : Fn := Fn1 fun d P => ∃ x n, d = refD x n ∧ NmOk x ∧ NuOk n ∧ P (.str (refS x n))
abbrev fBodyL : Fn := Fn1 fun d P => ∃ b : Bod, d = b.d ∧ b.ok ∧ P (.lst (b.lines.map .str))
abbrev fReadN : Fn := Fn1 fun d P => ∃ w, d = .str w ∧ w.length ≤ 50000 ∧ P (.int (numP w))
abbrev fReadR : Fn := Fn1 fun d P => ∃ w, d = .str w ∧ w.length ≤ 50000 ∧ P (refD (refP w).1 (refP w).2)
theorem ok_target (T : Txt w K mg C CB) : CallOk Pr w K mg base CX0 1 "target" ["body"] (spP K C (fTarget)) := by
  refine T.d_target.ok sc_target (fun vs H Q E h => len_P Fn1.len h) (fun f cdv A outer s H vs Q E hr h => ⟨_, (pss_cons (ps_if (pt_cmpR op_in_seq (pe_ix ix_tup (pv 0) pe_int (fun _ _ => rfl)) (pe_tup (pa_cons pe_str (pa_cons pe_str (pa_cons pe_str (pa_cons pe_str pa_nil))))) (by rfl)) (pss_one (ps_ret (pe_ix ix_tup (pv 0) pe_int (fun _ _ => rfl)))) pss_nil)
      (pss_one (ps_ret pe_non))), body_P h fun ds P hf => ?_⟩)
  obtain ⟨_, rfl, b, rfl, p⟩ := hf
  refine ⟨Nat.le_of_ble_eq_true rfl, ?_⟩
  show WS _ _ [.dat b.d] _ _ _ _
  try dsimp only [cxOf]
  cases b <;> walk_at "w" <;> exact p
theorem ok_text_of (T : Txt w K mg C CB) : CallOk Pr w K mg base CX0 1 "text_of" ["body"] (spP K C (fTextOf)) := by
  refine T.d_text_of.ok sc_text_of (fun vs H Q E h => len_P Fn1.len h) (fun f cdv A outer s H vs Q E hr h => ⟨_, (pss_cons (ps_if (pt_cmpR op_in_seq (pe_ix ix_tup (pv 0) pe_int (fun _ _ => rfl)) (pe_tup (pa_cons pe_str (pa_cons pe_str (pa_cons pe_str pa_nil)))) (by rfl)) (pss_one (ps_ret (pe_ix ix_tup (pv 0) (pe_un un_neg pe_int) (fun _ _ => rfl)))) pss_nil)
      (pss_one (ps_ret pe_non))), body_P h fun ds P hf => ?_⟩)
  obtain ⟨_, rfl, b, rfl, p⟩ := hf
  refine ⟨Nat.le_of_ble_eq_true rfl, ?_⟩
  show WS _ _ [.dat b.d] _ _ _ _
  try dsimp only [cxOf]
  cases b <;> walk_at "w" <;> exact p
theorem ok_ref_words (T : Txt w K mg C CB) : CallOk Pr w K mg base CX0 1 "ref_words" ["ref"] (spP K C (fRefW)) := by
  refine T.d_ref_words.ok sc_ref_words (fun vs H Q E h => len_P Fn1.len h) (fun f cdv A outer s H vs Q E hr h => ⟨_, (pss_one (ps_ret (pe_op oAddS (pe_op oAddS (pe_ix ix_tup (pv 0) pe_int (fun _ _ => rfl)) pe_str) (pe_callTy cStrI (by rfl) T.n_str bb_str (pa_cons (pe_ix ix_tup (pv 0) pe_int (fun _ _ => rfl)) pa_nil))))), body_P h fun ds P hf => ?_⟩)
  obtain ⟨_, rfl, x, n, rfl, h1, h2, p⟩ := hf
  refine ⟨Nat.le_of_ble_eq_true rfl, ?_⟩
  show WS _ _ [.dat (refD x n)] _ _ _ _
  try dsimp only [cxOf]
  have hl := nu_log h2
  have hx := nm_len h1
  obtain ⟨m, em, h3, h4⟩ := numOk_nat h2
  have b := numS_len (n := n) (by omega) (by omega)
  have b' : (Str.ofString (toString n)).length ≤ 19 := b
  have e1 : (Str.ofString " ").length = 1 := rfl
  walk_at "w"
  exact p
theorem ok_body_lines (T : Txt w K mg C CB) : CallOk Pr w K mg base CX0 2 "body_lines" ["body"] (spP K C (fBodyL)) := by
  have c_ref_words := @ok_ref_words Pr w K mg base C CB T
  have c_target := @ok_target Pr w K mg base C CB T
  have c_text_of := @ok_text_of Pr w K mg base C CB T
  refine T.d_body_lines.ok sc_body_lines (fun vs H Q E h => len_P Fn1.len h) (fun f cdv A outer s H vs Q E hr h => ⟨_, (pss_cons (ps_set (i := 1) sc_body_lines.nd rfl (.inl rfl) (pe_ix ix_tup (pv 0) pe_int (fun _ _ => rfl)))
      (pss_cons (ps_set (i := 2) sc_body_lines.nd rfl (.inl rfl) (pe_lst pa_nil))
      (pss_cons (ps_if (pt_cmpR op_in_seq (pv 1) (pe_tup (pa_cons pe_str (pa_cons pe_str pa_nil))) (by rfl)) (pss_one (ps_expr (pe_bm PySem.F.plainAttrs_list PySem.F.slot_list_append PySem.F.type_list_append mt_append (pv 2) (pa_cons (pe_op oAddS pe_str (pe_ix ix_tup (pv 0) pe_int (fun _ _ => rfl))) pa_nil)))) pss_nil)
      (pss_cons (ps_if (pt_cmpR op_eq (pv 1) pe_str (nomark _)) (pss_one (ps_expr (pe_bm PySem.F.plainAttrs_list PySem.F.slot_list_append PySem.F.type_list_append mt_append (pv 2) (pa_cons (pe_op oAddS pe_str (pe_m1 PySem.F.slot_str_join PySem.F.type_str_join mJoin pe_str (pe_ix ix_tup (pv 0) pe_int (fun _ _ => rfl)))) pa_nil)))) pss_nil)
      (pss_cons (ps_if (pt_cmpR op_notN1 (pe_cal c_target (hr.mono (by decide)) pass0 (pa_cons (pv 0) pa_nil)) pe_non (nomark _)) (pss_one (ps_expr (pe_bm PySem.F.plainAttrs_list PySem.F.slot_list_append PySem.F.type_list_append mt_append (pv 2) (pa_cons (pe_op oAddS pe_str (pe_cal c_ref_words (hr.mono (by decide)) pass0 (pa_cons (pe_cal c_target (hr.mono (by decide)) pass0 (pa_cons (pv 0) pa_nil)) pa_nil))) pa_nil)))) pss_nil)
      (pss_cons (ps_if (pt_cmpR op_notN1 (pe_cal c_text_of (hr.mono (by decide)) pass0 (pa_cons (pv 0) pa_nil)) pe_non (nomark _)) (pss_one (ps_expr (pe_bm PySem.F.plainAttrs_list PySem.F.slot_list_append PySem.F.type_list_append mt_append (pv 2) (pa_cons (pe_op oAddS pe_str (pe_callTy cStrI (by rfl) T.n_str bb_str (pa_cons (pe_op op_add (pe_m1 PySem.F.slot_str_count PySem.F.type_str_count mCount (pe_cal c_text_of (hr.mono (by decide)) pass0 (pa_cons (pv 0) pa_nil)) pe_str) pe_int) pa_nil))) pa_nil)))) pss_nil)
      (pss_cons (ps_if (pt_cmpR op_eq (pv 1) pe_str (nomark _)) (pss_one (ps_expr (pe_bm PySem.F.plainAttrs_list PySem.F.slot_list_append PySem.F.type_list_append mt_append (pv 2) (pa_cons (pe_op oAddS pe_str (pe_ix ix_tup (pv 0) pe_int (fun _ _ => rfl))) pa_nil)))) pss_nil)
      (pss_cons (ps_if (pt_cmpR op_in_seq (pv 1) (pe_tup (pa_cons pe_str (pa_cons pe_str (pa_cons pe_str pa_nil)))) (by rfl)) (pss_one (ps_expr (pe_bm PySem.F.plainAttrs_list PySem.F.slot_list_append PySem.F.type_list_append mt_append (pv 2) (pa_cons (pe_op oAddS pe_str (pe_ix ix_tup (pv 0) pe_int (fun _ _ => rfl))) pa_nil)))) pss_nil)
      (pss_one (ps_ret (pv 2))))))))))), body_P h fun ds P hf => ?_⟩)
  obtain ⟨_, rfl, b, rfl, hb, p⟩ := hf
  refine ⟨Nat.le_of_ble_eq_true rfl, ?_⟩
  show WS _ _ [.dat b.d, .un, .un] _ _ _ _
  try dsimp only [cxOf]
  have e1 : (Str.ofString "Title: ").length = 7 := rfl
  have e2 : (Str.ofString "Members: ").length = 9 := rfl
  have e3 : (Str.ofString "Ref: ").length = 5 := rfl
  have e4 : (Str.ofString "Lines: ").length = 7 := rfl
  have e5 : (Str.ofString "Word: ").length = 6 := rfl
  have e6 : (Str.ofString "Name: ").length = 6 := rfl
  have e7 : (Str.ofString ", ").length = 2 := rfl
  cases b with
  | found t ms =>
    have h1 := tt_len hb.1
    have h2 : (ms.map (·.length)).sum + ms.length * (Str.ofString ", ").length ≤ 16777216 := by
      have := sum_len (n := 12) fun m hm => nm_len (hb.2.2.1 m hm)
      have := hb.2.1
      rw [e7]; omega
    have h3 : (Txt.join (Str.ofString ", ") ms).length ≤ 10000 := by
      have := sum_len (n := 12) fun m hm => nm_len (hb.2.2.1 m hm)
      have := hb.2.1
      have := join_len (Str.ofString ", ") ms
      rw [e7] at this; omega
    walk_at "w"; exact p
  | say t =>
    have h1 := cnt_bound (tx_len hb)
    have h2 := log_ok (n := Txt.count t (Str.ofString "\n") + 1) h1.1 (by omega)
    have h3 := numS_len (n := Txt.count t (Str.ofString "\n") + 1) h1.1 (by omega)
    have h4 : (Str.ofString (toString (Txt.count t (Str.ofString "\n") + 1))).length ≤ 19 := h3
    walk_at "w"; exact p
  | reply x n t =>
    have h0 := refS_len hb.1.1 hb.1.2
    have hx := hb.1.1
    have hn := hb.1.2
    have h1 := cnt_bound (tx_len hb.2)
    have h2 := log_ok (n := Txt.count t (Str.ofString "\n") + 1) h1.1 (by omega)
    have h3 := numS_len (n := Txt.count t (Str.ofString "\n") + 1) h1.1 (by omega)
    have h4 : (Str.ofString (toString (Txt.count t (Str.ofString "\n") + 1))).length ≤ 19 := h3
    walk_at "w"; exact p
  | edit x n t =>
    have h0 := refS_len hb.1.1 hb.1.2
    have hx := hb.1.1
    have hn := hb.1.2
    have h1 := cnt_bound (tx_len hb.2)
    have h2 := log_ok (n := Txt.count t (Str.ofString "\n") + 1) h1.1 (by omega)
    have h3 := numS_len (n := Txt.count t (Str.ofString "\n") + 1) h1.1 (by omega)
    have h4 : (Str.ofString (toString (Txt.count t (Str.ofString "\n") + 1))).length ≤ 19 := h3
    walk_at "w"; exact p
  | recall x n =>
    have h0 := refS_len hb.1 hb.2
    have hx := hb.1
    have hn := hb.2
    walk_at "w"; exact p
  | mark x n y =>
    have h0 := refS_len hb.1.1 hb.1.2
    have hx := hb.1.1
    have hn := hb.1.2
    have h1 := nm_len hb.2
    walk_at "w"; exact p
  | title t =>
    have h1 := tt_len hb
    walk_at "w"; exact p
  | add x =>
    have h1 := nm_len hb
    walk_at "w"; exact p
  | cut x =>
    have h1 := nm_len hb
    walk_at "w"; exact p
  | hand x =>
    have h1 := nm_len hb
    walk_at "w"; exact p
  | seen => walk_at "w"; exact p
theorem ok_read_number (T : Txt w K mg C CB) : CallOk Pr w K mg base CX0 1 "read_number" ["word"] (spP K C (fReadN)) := by
  refine T.d_read_number.ok sc_read_number (fun vs H Q E h => len_P Fn1.len h) (fun f cdv A outer s H vs Q E hr h => ⟨_, (pss_cons (ps_if (pt_not (pt_chain op_le op_le pe_int (pe_callB cLen (by rfl) T.n_len bb_len (pa_cons (pv 0) pa_nil)) (pe_gi T.c_MOST_DIGITS))) (pss_one (ps_ret pe_int)) pss_nil)
      (pss_cons (ps_for PassesOwn.never rfl (pi_str (pv 0)) (pg_name (i := 1) sc_read_number.nd rfl (.inl rfl))
      (pss_one (ps_if (pt_cmpR oNotInS (pv 1) (pe_gs T.c_DIGITS_headers) (by rfl)) (pss_one (ps_ret pe_int)) pss_nil)))
      (pss_one (ps_ret (pe_callTy cIntS (by rfl) T.n_int bb_int (pa_cons (pv 0) pa_nil)))))), body_P h fun ds P hf => ?_⟩)
  obtain ⟨_, rfl, x, rfl, hx, p⟩ := hf
  refine ⟨Nat.le_of_ble_eq_true rfl, ?_⟩
  show WS _ _ [.dat (.str x), .un] _ _ _ _
  try dsimp only [cxOf]
  have el := TL.len_tl x
  walk_at "w"
  refine if_2 (fun h1 => ?_) (fun h1 => ?_)
  · have h1 := of_decide_eq_true h1
    walk_at "w"
    refine if_2 (fun h2 => ?_) (fun h2 => ?_)
    · walk_at "w"
      refine PtoI p (numP_no fun l => ?_)
      simp only [Bool.not_eq_true', decide_eq_false_iff_not] at h2; omega
    · walk_at "w"
      simp only [Bool.not_eq_false', decide_eq_true_eq] at h2
      refine ForInv.mk (fun i τ' => ∃ s, τ' = [.dat (.str x), s] ∧ ∀ c ∈ (TL.tl x).take i, digCh c = true) ⟨.un, rfl, by simp⟩ (fun i d τ' hd hI => ?_) (fun τ' hI => ?_)
      · obtain ⟨s, rfl, hI⟩ := hI
        obtain ⟨c, hc, rfl⟩ := chD_get hd
        walk_at "w"
        refine if_2 (fun h3 => ?_) (fun h3 => ?_)
        · walk_at "w"
          refine PtoI p (numP_bad (List.mem_iff_getElem?.mpr ⟨i, hc⟩) ?_)
          simpa [digCh] using h3
        · walk_at "w"
          intro c' hm
          rw [List.take_add_one, hc] at hm
          rcases List.mem_append.mp hm with q | q
          · exact hI c' q
          · simp at q; rw [q]; simpa [digCh] using h3
      · obtain ⟨s, rfl, hI⟩ := hI
        rw [chD_len, el, List.take_length] at hI
        obtain ⟨q1, q2⟩ := numP_of (w := x) (by omega) (by omega) hI
        walk_at "w"
        refine cd_intS q1 q2 ?_
        exact p
  · walk_at "w"
    refine PtoI p (numP_no fun l => ?_)
    simp only [decide_eq_false_iff_not] at h1; omega
theorem ok_read_ref (T : Txt w K mg C CB) : CallOk Pr w K mg base CX0 2 "read_ref" ["words"] (spP K C (fReadR)) := by
  have c_read_number := @ok_read_number Pr w K mg base C CB T
  refine T.d_read_ref.ok sc_read_ref (fun vs H Q E h => len_P Fn1.len h) (fun f cdv A outer s H vs Q E hr h => ⟨_, (pss_cons (ps_asg (pe_m1 PySem.F.slot_str_partition PySem.F.type_str_partition mPart (pv 0) pe_str) (pg_tup rfl (pgs_cons (pg_name (i := 1) sc_read_ref.nd rfl (.inl rfl)) (pgs_cons (pg_name (i := 2) sc_read_ref.nd rfl (.inl rfl)) (pgs_cons (pg_name (i := 3) sc_read_ref.nd rfl (.inl rfl)) pgs_nil)))))
      (pss_one (ps_ret (pe_tup (pa_cons (pv 1) (pa_cons (pe_cal c_read_number (hr.mono (by decide)) pass0 (pa_cons (pv 3) pa_nil)) pa_nil)))))), body_P h fun ds P hf => ?_⟩)
  obtain ⟨_, rfl, x, rfl, hx, p⟩ := hf
  refine ⟨Nat.le_of_ble_eq_true rfl, ?_⟩
  show WS _ _ [.dat (.str x), .un, .un, .un] _ _ _ _
  try dsimp only [cxOf]
  have hl := part_len (y := Str.ofString " ") x (fun z => by cases z)
  walk_at "w"
  exact p
end
end
section
open PySem PySem.Spec PyProof.Rows L2
open Evl (Ex ex_rd ex_l ex_t)
open CwR
set_option autoImplicit false
local macro_rules | `(tactic| walk_at "fld") => `(tactic| first | with_reducible refine wp_author (by assumption) (by assumption) ?_ | with_reducible refine wp_number (by assumption) (by assumption) ?_ | with_reducible refine wp_stamp (by assumption) (by assumption) ?_ | with_reducible refine wp_seen (by assumption) (by assumption) ?_ | with_reducible refine wp_body (by assumption) (by assumption) ?_)
open Bod (NmOk NuOk TtOk TxOk)
section
variable {Pr : Program} {w : World} {K : PySem.W.Frag} {mg : Str → Option Value} {base : Heap} {C CB : Addr}
abbrev fHdr : Fn := Fn1 fun d P => ∃ L : Ltr, d = L.l ∧ L.ok ∧ L.es.length ≤ 50000 ∧ P (.lst (L.hdr.map .str))
theorem kind_len (b : Bod) : b.kind.length ≤ 6 := by
  cases b <;> exact Nat.le_of_ble_eq_true rfl
theorem ok_header_lines (T : Txt w K mg C CB) : CallOk Pr w K mg base CX0 3 "header_lines" ["letter"] (spP K C (fHdr)) := by
  have c_body_lines := @ok_body_lines Pr w K mg base C CB T
  have c_ref := @ok_ref Pr w K mg base C CB T
  have c_ref_words := @ok_ref_words Pr w K mg base C CB T
  refine T.d_header_lines.ok sc_header_lines (fun vs H Q E h => len_P Fn1.len h) (fun f cdv A outer s H vs Q E hr h => ⟨_, (pss_one (ps_ret (pe_op op_cat (pe_lst (pa_cons (pe_op oAddS pe_str (pe_cal c_ref_words (hr.mono (by decide)) pass0 (pa_cons (pe_rf c_ref T.lcls (pv 0) (hr.mono (by decide))) pa_nil))) (pa_cons (pe_op oAddS pe_str (pe_callTy cStrI (by rfl) T.n_str bb_str (pa_cons (pe_fld (pv 0) rfl) pa_nil))) (pa_cons (pe_op oAddS pe_str (pe_m1 PySem.F.slot_str_join PySem.F.type_str_join mJoin pe_str (pe_lc (own := [("pair", 1)]) (g := gName 1) (tt := tYes) rfl sc_header_lines.nd (pi_tup (pe_fld (pv 0) rfl)) (blkOk_by (own := [("pair", 1)]) (N := N_header_lines) (sc := defScope s_header_lines) (by decide +kernel)) (fun _ _ _ _ _ => pg_name (i := 1) sc_header_lines.nd rfl (Or.inl rfl)) (fun _ _ _ _ _ => pts_nil) (fun _ _ _ _ _ => (pe_cal c_ref_words (hr.mono (by decide)) pass0 (pa_cons (pv 1) pa_nil)))))) (pa_cons (pe_op oAddS pe_str (pe_ix ix_tup (pe_fld (pv 0) rfl) pe_int (fun _ _ => rfl))) pa_nil))))) (pe_cal c_body_lines (hr.mono (by decide)) pass0 (pa_cons (pe_fld (pv 0) rfl) pa_nil))))), body_P h fun ds P hf => ?_⟩)
  obtain ⟨_, rfl, L, rfl, ok, hl, p⟩ := hf
  have l0 := T.lcls
  have l1 := T.no_author
  have l2 := T.no_number
  have l3 := T.no_stamp
  have l4 := T.no_seen
  have l5 := T.no_body
  refine ⟨Nat.le_of_ble_eq_true rfl, ?_⟩
  show WS _ _ [.dat L.l, .un] _ _ _ _
  try dsimp only [cxOf]
  have e1 : (Str.ofString "From: ").length = 6 := rfl
  have e2 : (Str.ofString "Stamp: ").length = 7 := rfl
  have e3 : (Str.ofString "Seen: ").length = 6 := rfl
  have e4 : (Str.ofString "Kind: ").length = 6 := rfl
  have e5 : (Str.ofString ", ").length = 2 := rfl
  have h1 := refS_len ok.a ok.n
  have h2 := nu_log ok.s
  obtain ⟨m, em, h3, h4⟩ := numOk_nat ok.s
  have h5 := numS_len (n := L.s) (by omega) (by omega)
  have h5' : (Str.ofString (toString L.s)).length ≤ 19 := h5
  have q1 := ok.a
  have q2 := ok.n
  have q3 := ok.b
  have hk := kind_len L.b
  walk_at "w"
  refine LcInv.map refSD ?la ?lb (fun i d hd => ?_) ?_
  case la => exact Nat.le_of_ble_eq_true rfl
  case lb => rw [List.length_map]; omega
  · have hd := List.mem_of_getElem? hd
    obtain ⟨r, hr, rfl⟩ := List.mem_map.mp hd
    have r1 := (ok.es r hr).1
    have r2 := (ok.es r hr).2
    walk_at "w"
    rfl
  · rw [map_refSD]
    obtain ⟨ss, ess⟩ : ∃ ss : List Str, ss = L.es.map (fun p => refS p.1 p.2) := ⟨_, rfl⟩
    have hs := sum_len (n := 32) (ss := ss) fun s hs => by
      rw [ess] at hs
      obtain ⟨r, hr, rfl⟩ := List.mem_map.mp hs
      exact refS_len (ok.es r hr).1 (ok.es r hr).2
    have hsl : ss.length ≤ 50000 := by rw [ess, List.length_map]; exact hl
    have es : seenS L.es = Txt.join ", " ss := by rw [ess]; rfl
    rw [← ess]
    have hj : (ss.map (·.length)).sum + ss.length * (Str.ofString ", ").length ≤ 1700000 := by
      rw [e5]; omega
    have hj1 : (ss.map (·.length)).sum + ss.length * (Str.ofString ", ").length ≤ 16777216 := by omega
    have hj2 : (Txt.join (Str.ofString ", ") ss).length ≤ 1700000 := by
      have := join_len (Str.ofString ", ") ss
      omega
    walk_at "w"
    refine od_cat ?_ ?_
    · rw [List.length_map]
      have : L.b.lines.length ≤ 2 := by cases L.b <;> exact Nat.le_of_ble_eq_true rfl
      show 4 + _ ≤ _
      omega
    · refine PtoD p ?_
      unfold Ltr.hdr
      rw [es, List.map_append]; rfl
/-- the first place at or behind at where the line is empty, or the end -/
def headE (ls : List Str) : Nat → Nat
  | at_ => at_ + ((ls.drop at_).takeWhile fun l : Str => !decide (l = "")).length
def textE (ls : List Str) : Nat → Nat
  | at_ => at_ + ((ls.drop at_).takeWhile fun l : Str => decide (fst1 l = "|")).length
abbrev fHeadE : Fn := Fn2 fun d e P => ∃ (ls : List Str) (at_ : Nat), d = .lst (ls.map .str) ∧ e = .int (at_ : Nat) ∧ P (.int (headE ls at_ : Nat))
abbrev fTextE : Fn := Fn2 fun d e P => ∃ (ls : List Str) (at_ : Nat), d = .lst (ls.map .str) ∧ e = .int (at_ : Nat) ∧ (∀ l ∈ ls, l.length ≤ 50000) ∧ P (.int (textE ls at_ : Nat))
theorem tw_step {ls : List Str} {i : Nat} {l : Str} {f : Str → Bool} (h : ls[i]? = some l) : i + ((ls.drop i).takeWhile f).length = if f l = true then (i + 1) + ((ls.drop (i + 1)).takeWhile f).length else i := by
  have hi : i < ls.length := (List.getElem?_eq_some_iff.mp h).1
  rw [List.drop_eq_getElem_cons hi]
  have e : ls[i] = l := (List.getElem?_eq_some_iff.mp h).2
  rw [e, List.takeWhile_cons]
  split
  · rw [List.length_cons]; omega
  · simp
theorem tw_end {ls : List Str} {i : Nat} {f : Str → Bool} (h : ls.length ≤ i) : i + ((ls.drop i).takeWhile f).length = i := by
  rw [List.drop_eq_nil_of_le h]; rfl
theorem atI_map {ls : List Str} {i : Nat} {l : Str} (h : ls[i]? = some l) : atI (ls.map D.str) ((i : Nat) : Int) = some (.str l) := atI_nat (by rw [List.getElem?_map, h]; rfl)
theorem ok_head_end (T : Txt w K mg C CB) : CallOk Pr w K mg base CX0 1 "head_end" ["lines", "at"] (spP K C (fHeadE)) := by
  refine T.d_head_end.ok sc_head_end (fun vs H Q E h => len_P Fn2.len h) (fun f cdv A outer s H vs Q E hr h => ⟨_, (pss_cons (ps_while PassesOwn.never (PW.pt (pw_and (pt_cmpR op_lt (pv 1) (pe_callB cLen (by rfl) T.n_len bb_len (pa_cons (pv 0) pa_nil)) (nomark _)) (pw_and1 (pt_cmpR op_ne (pe_ix ix_list (pv 0) (pv 1) (fun _ _ => rfl)) pe_str (nomark _))))) (pss_one (ps_aug (i := 1) sc_head_end.nd rfl (.inl rfl) pe_int ip_add)))
      (pss_one (ps_ret (pv 1)))), body_P h fun ds P hf => ?_⟩)
  obtain ⟨_, _, rfl, ls, a, rfl, rfl, p⟩ := hf
  refine ⟨Nat.le_of_ble_eq_true rfl, ?_⟩
  show WS _ _ [.dat (.lst (ls.map .str)), .dat (.int (a : Nat))] _ _ _ _
  try dsimp only [cxOf]
  walk_at "w"
  refine ws_while (fun k τ' => ∃ i : Nat, τ' = [.dat (.lst (ls.map .str)), .dat (.int (i : Nat))] ∧ headE ls i = headE ls a ∧ k = ls.length - i) (ls.length - a) ⟨a, rfl, rfl, rfl⟩ (fun k τ' hI => ?_)
  obtain ⟨i, rfl, hE, rfl⟩ := hI
  walk_at "w"
  refine if_2 (fun h1 => ?_) (fun h1 => ?_)
  · have h1 := of_decide_eq_true h1
    rw [List.length_map] at h1
    have hi : i < ls.length := by omega
    obtain ⟨l, hl⟩ : ∃ l, ls[i]? = some l := ⟨_, List.getElem?_eq_getElem hi⟩
    have hs := tw_step (f := fun l : Str => !decide (l = "")) hl
    walk_at "w"
    refine od_ixL (atI_map hl) ?_
    walk_at "w"
    refine if_2 (fun h2 => ?_) (fun h2 => ?_)
    · refine ws_aug (n := (i : Nat)) rfl ?_
      walk_at "w"
      refine ⟨ls.length - (i + 1), by omega, i + 1, rfl, ?_, rfl⟩
      have h2 : (!decide (l = "")) = true := h2
      rw [if_pos h2] at hs
      rw [← hE]; exact hs.symm
    · walk_at "w"
      have h2 : (!decide (l = "")) = false := h2
      rw [if_neg (by rw [h2]; decide)] at hs
      exact PtoI p (by rw [← hE]; exact congrArg _ hs)
  · walk_at "w"
    rw [List.length_map] at h1
    have hi : ls.length ≤ i := by simp only [decide_eq_false_iff_not] at h1; omega
    exact PtoI p (by rw [← hE]; exact congrArg _ (tw_end hi))
theorem ok_text_end (T : Txt w K mg C CB) : CallOk Pr w K mg base CX0 1 "text_end" ["lines", "at"] (spP K C (fTextE)) := by
  refine T.d_text_end.ok sc_text_end (fun vs H Q E h => len_P Fn2.len h) (fun f cdv A outer s H vs Q E hr h => ⟨_, (pss_cons (ps_while PassesOwn.never (PW.pt (pw_and (pt_cmpR op_lt (pv 1) (pe_callB cLen (by rfl) T.n_len bb_len (pa_cons (pv 0) pa_nil)) (nomark _)) (pw_and1 (pt_cmpR op_eq (pe_slice sl_str (pe_ix ix_list (pv 0) (pv 1) (fun _ _ => rfl)) po_none (po_some pe_int)) (pe_gs T.c_MARK) (nomark _))))) (pss_one (ps_aug (i := 1) sc_text_end.nd rfl (.inl rfl) pe_int ip_add)))
      (pss_one (ps_ret (pv 1)))), body_P h fun ds P hf => ?_⟩)
  obtain ⟨_, _, rfl, ls, a, rfl, rfl, hb, p⟩ := hf
  refine ⟨Nat.le_of_ble_eq_true rfl, ?_⟩
  show WS _ _ [.dat (.lst (ls.map .str)), .dat (.int (a : Nat))] _ _ _ _
  try dsimp only [cxOf]
  walk_at "w"
  refine ws_while (fun k τ' => ∃ i : Nat, τ' = [.dat (.lst (ls.map .str)), .dat (.int (i : Nat))] ∧ textE ls i = textE ls a ∧ k = ls.length - i) (ls.length - a) ⟨a, rfl, rfl, rfl⟩ (fun k τ' hI => ?_)
  obtain ⟨i, rfl, hE, rfl⟩ := hI
  walk_at "w"
  refine if_2 (fun h1 => ?_) (fun h1 => ?_)
  · have h1 := of_decide_eq_true h1
    rw [List.length_map] at h1
    have hi : i < ls.length := by omega
    obtain ⟨l, hl⟩ : ∃ l, ls[i]? = some l := ⟨_, List.getElem?_eq_getElem hi⟩
    have hb := hb l (List.mem_of_getElem? hl)
    have hs := tw_step (f := fun l : Str => decide (fst1 l = "|")) hl
    walk_at "w"
    refine od_ixL (atI_map hl) ?_
    walk_at "w"
    refine if_2 (fun h2 => ?_) (fun h2 => ?_)
    · refine ws_aug (n := (i : Nat)) rfl ?_
      walk_at "w"
      refine ⟨ls.length - (i + 1), by omega, i + 1, rfl, ?_, rfl⟩
      have h2 : decide (fst1 l = "|") = true := h2
      rw [if_pos h2] at hs
      rw [← hE]; exact hs.symm
    · walk_at "w"
      have h2 : decide (fst1 l = "|") = false := h2
      rw [if_neg (by rw [h2]; decide)] at hs
      exact PtoI p (by rw [← hE]; exact congrArg _ hs)
  · walk_at "w"
    rw [List.length_map] at h1
    have hi : ls.length ≤ i := by simp only [decide_eq_false_iff_not] at h1; omega
    exact PtoI p (by rw [← hE]; exact congrArg _ (tw_end hi))
end
end
section
open PySem PySem.Spec PyProof.Rows L2
open Evl (Ex ex_rd ex_l ex_t)
open CwR
set_option autoImplicit false
open Bod (NmOk NuOk TtOk TxOk)
section
variable {Pr : Program} {w : World} {K : PySem.W.Frag} {mg : Str → Option Value} {base : Heap} {C CB : Addr}
abbrev fUnf : FnX := FnX1 fun d P PE => ∃ ls : List Str, d = .lst (ls.map .str) ∧ (ls.map (·.length)).sum ≤ 50000 ∧ ls.length ≤ 50000 ∧ (∀ hs, unfL [] ls = some hs → P (.lst (hs.map .str))) ∧ (unfL [] ls = none → PE)
abbrev fReadB : Fn := Fn2 fun d e P => ∃ kvs, d = dctP kvs ∧ AllS kvs ∧ P (bodyP kvs e)
theorem sum_take {ls : List Str} {i : Nat} {l : Str} (h : ls[i]? = some l) : ((ls.take (i + 1)).map (·.length)).sum = ((ls.take i).map (·.length)).sum + l.length := by
  rw [List.take_add_one, h, List.map_append, List.sum_append]; simp
theorem sum_take_le (ls : List Str) (i : Nat) : ((ls.take i).map (·.length)).sum ≤ (ls.map (·.length)).sum := by
  have e : ls = ls.take i ++ ls.drop i := (List.take_append_drop i ls).symm
  have : (ls.map (·.length)).sum = ((ls.take i).map (·.length)).sum + ((ls.drop i).map (·.length)).sum := by
    rw [← List.sum_append, ← List.map_append, List.take_append_drop]
  omega
theorem getD_at {α : Type} {l : List α} {d : α} (h : l ≠ []) : ∃ x, l[l.length - 1]? = some x ∧ l.getD (l.length - 1) d = x := by
  have hl : l.length - 1 < l.length := by
    cases l with
    | nil => exact absurd rfl h
    | cons a r => simp
  refine ⟨l[l.length - 1], List.getElem?_eq_getElem hl, ?_⟩
  rw [List.getD_eq_getElem?_getD, List.getElem?_eq_getElem hl]; rfl
theorem atI_neg1 {α : Type} {l : List α} {x : α} (h : l[l.length - 1]? = some x) : atI l (-1) = some x := by
  have hl : l.length - 1 < l.length := (List.getElem?_eq_some_iff.mp h).1
  unfold atI
  have : ixN l.length (-1) = some (l.length - 1) := by
    unfold ixN
    rw [if_neg (by omega), if_pos (by omega)]
    congr 1
    omega
  rw [this]; exact h
theorem ixN_neg1 {n : Nat} (h : 0 < n) : ixN n (-1) = some (n - 1) := by
  unfold ixN
  rw [if_neg (by omega), if_pos (by omega)]
  congr 1
  omega
theorem ok_unfold (T : Txt w K mg C CB) : CallOk Pr w K mg base (L2.CX Pr w) 1 "unfold" ["lines"] (spX K C CB (fUnf)) := by
  refine T.d_unfold.okX sc_unfold (fun vs H Q E h => len_X FnX1.len h) (fun f cdv A outer s H vs Q E hr h => ⟨_, (pss_cons (ps_set (i := 1) sc_unfold.nd rfl (.inl rfl) (pe_lst pa_nil))
      (pss_cons (ps_for (passes_of rfl) rfl (pi_list (pv 0)) (pg_name (i := 2) sc_unfold.nd rfl (.inl rfl))
      (pss_one (ps_if (pt_cmpR op_ne (pe_slice sl_str (pv 2) po_none (po_some pe_int)) pe_str (nomark _)) (pss_one (ps_expr (pe_bm PySem.F.plainAttrs_list PySem.F.slot_list_append PySem.F.type_list_append mt_append (pv 1) (pa_cons (pv 2) pa_nil)))) (pss_one (ps_if (pt_tru (pv 1)) (pss_one (ps_asg (pe_op oAddS (pe_ix ix_list (pv 1) (pe_un un_neg pe_int) (fun _ _ => rfl)) (pv 2)) (pg_sub (pv 1) (pe_un un_neg pe_int) set_list))) (pss_one (ps_raise rfl (takes_of rfl rfl rfl rfl) (pmk_bm T))))))))
      (pss_one (ps_ret (pv 1))))), body_X h fun ds P PE hf => ?_⟩)
  obtain ⟨_, rfl, ls, rfl, hs, hn, p, pe⟩ := hf
  refine ⟨Nat.le_of_ble_eq_true rfl, ?_⟩
  show WS _ _ [.dat (.lst (ls.map .str)), .un, .un] _ _ _ _
  try dsimp only [cxOf]
  walk_at "w"
  refine ForInv.mk (fun i τ' => ∃ acc s, τ' = [.dat (.lst (ls.map .str)), .own acc, s] ∧ unfL [] ls = unfL acc (ls.drop i) ∧ (∀ x ∈ acc, x.length ≤ ((ls.take i).map (·.length)).sum) ∧ acc.length ≤ i) ⟨[], .un, rfl, rfl, (fun _ h => nomatch h), Nat.le_refl _⟩ (fun i d τ' hd hI => ?_) (fun τ' hI => ?_)
  · obtain ⟨acc, s, rfl, hU, hL, hA⟩ := hI
    rw [List.getElem?_map] at hd
    obtain ⟨l, hl, rfl⟩ := Option.map_eq_some_iff.mp hd
    have hi : i < ls.length := (List.getElem?_eq_some_iff.mp hl).1
    have e1 := sum_take hl
    have e2 := sum_take_le ls (i + 1)
    have e0 := sum_take_le ls i
    have hl1 : l.length ≤ 100000 := by omega
    have ed : ls.drop i = l :: ls.drop (i + 1) := by
      rw [List.drop_eq_getElem_cons hi, (List.getElem?_eq_some_iff.mp hl).2]
    rw [ed, unfL_cons] at hU
    have hL' : ∀ x ∈ acc, x.length ≤ ((ls.take (i + 1)).map (·.length)).sum := fun x hx => by have := hL x hx; omega
    walk_at "w"
    refine if_2 (fun h1 => ?_) (fun h1 => ?_)
    · have h1 : ¬ fst1 l = " " := by simpa using h1
      rw [unf_no h1] at hU
      walk_at "w"
      refine ⟨?_, ?_⟩
      · intro x hx
        rcases List.mem_append.mp hx with z | z
        · exact hL' x z
        · rw [List.mem_singleton.mp z]; omega
      · rw [List.length_append]; show acc.length + 1 ≤ i + 1; omega
    · have h1 : fst1 l = " " := by simpa using h1
      by_cases hne : acc = []
      · subst hne
        rw [unf_bad h1] at hU
        refine ws_ifF (wt_truL (wp_var rfl ⟨_, rfl, ?_⟩))
        refine if_f ?_
        exact ws_raise (pe hU)
      · have ht : (!(acc.map D.str).isEmpty) = true := by
          cases acc with
          | nil => exact absurd rfl hne
          | cons _ _ => rfl
        refine ws_ifF (wt_truL (wp_var rfl ⟨_, rfl, ?_⟩))
        refine if_is ht (if_t ?_)
        rw [unf_yes h1 hne] at hU
        obtain ⟨x, hx1, hx2⟩ := getD_at (d := Str.empty) hne
        rw [hx2] at hU
        have hx3 := hL x (List.mem_of_getElem? hx1)
        have hpos : 0 < acc.length := List.length_pos_iff.mpr hne
        walk_at "w"
        refine od_ixL (d := .str x) (atI_neg1 (by rw [List.length_map, List.getElem?_map, hx1]; rfl)) ?_
        walk_at "w"
        refine ⟨_, _, rfl, ixN_neg1 hpos, ?_⟩
        walk_at "w"
        refine ⟨?_, ?_⟩
        · intro y hy
          rcases List.mem_or_eq_of_mem_set hy with z | z
          · exact hL' y z
          · rw [z, slen_app]; omega
        · rw [List.length_set]; omega
  · obtain ⟨acc, s, rfl, hU, _, _⟩ := hI
    rw [List.length_map, List.drop_length] at hU
    walk_at "w"
    exact p acc hU
end
end
section
open PySem PySem.Spec PyProof.Rows L2
open Evl (Ex ex_rd ex_l ex_t)
open CwR
set_option autoImplicit false
section
variable {Pr : Program} {w : World} {K : PySem.W.Frag} {mg : Str → Option Value} {base : Heap} {C CB : Addr}
theorem ok_is_name (T : Txt w K mg C CB) : CallOk Pr w K mg base CX0 1 "is_name" ["thing"] (spP K C (fD isNameD)) := by
  refine T.d_is_name.ok sc_is_name (fun vs H Q E h => len_P Fn1.len h) (fun f cdv A outer s H vs Q E hr h => ⟨_, (pss_cons (ps_if (PW.pt (pw_or (pt_not (pt_val (pe_callB call_isi (by rfl) T.n_isinstance bb_isinstance (pa_cons (pv 0) (pa_cons (pe_bltn (v := .ty "str") (by rfl) T.n_str bb_str rfl) pa_nil))))) (pw_or1 (pt_not (pt_chain op_le op_le pe_int (pe_callB cLen (by rfl) T.n_len bb_len (pa_cons (pv 0) pa_nil)) (pe_gi T.c_LONGEST_NAME)))))) (pss_one (ps_ret pe_bl)) pss_nil)
      (pss_cons (ps_for PassesOwn.never rfl (pi_str (pv 0)) (pg_name (i := 1) sc_is_name.nd rfl (.inl rfl))
      (pss_one (ps_if (PW.pt (pw_and (pt_cmpR oNotInS (pv 1) (pe_gs T.c_LETTERS) (by rfl)) (pw_and1 (pt_cmpR oNotInS (pv 1) (pe_gs T.c_DIGITS_names) (by rfl))))) (pss_one (ps_ret pe_bl)) pss_nil)))
      (pss_one (ps_ret (pe_cmpR oInS (pe_ix ix_str (pv 0) pe_int (fun _ _ => rfl)) (pe_gs T.c_LETTERS) (by rfl)))))), body_P h fun ds P hf => ?_⟩)
  obtain ⟨d, rfl, hd, p⟩ := hf
  refine ⟨Nat.le_of_ble_eq_true rfl, ?_⟩
  show WS _ _ [.dat d, .un] _ _ _ _
  try dsimp only [cxOf]
  cases d with
  | str x =>
    have hx : x.length ≤ 50000 := hd.1
    have el := TL.len_tl x
    walk_at "w"
    refine if_2 (fun h1 => ?_) (fun h1 => ?_)
    · have n1 := of_decide_eq_true h1
      walk_at "w"
      refine if_2 (fun h2 => ?_) (fun h2 => ?_)
      · walk_at "w"
        refine Pto p (nameL_no fun l => ?_)
        simp only [Bool.not_eq_true', decide_eq_false_iff_not] at h2; omega
      · walk_at "w"
        simp only [Bool.not_eq_false', decide_eq_true_eq] at h2
        refine ForInv.mk (fun i τ' => ∃ s, τ' = [.dat (.str x), s] ∧ ∀ c ∈ (TL.tl x).take i, nmCh c = true) ⟨.un, rfl, by simp⟩ (fun i d τ' hd hI => ?_) (fun τ' hI => ?_)
        · obtain ⟨s, rfl, hI⟩ := hI
          obtain ⟨c, hc, rfl⟩ := chD_get hd
          walk_at "w"
          have hn : nmCh c = true → ∀ c' ∈ (TL.tl x).take (i + 1), nmCh c' = true := fun h c' hm => by
            rw [List.take_add_one, hc] at hm
            rcases List.mem_append.mp hm with q | q
            · exact hI c' q
            · simp at q; rw [q]; exact h
          refine if_2 (fun h3 => ?_) (fun h3 => ?_)
          · walk_at "w"
            refine if_2 (fun h4 => ?_) (fun h4 => ?_)
            · walk_at "w"
              refine Pto p (nameL_bad (List.mem_iff_getElem?.mpr ⟨i, hc⟩) ?_)
              simp only [Bool.not_eq_true', decide_eq_false_iff_not] at h3 h4
              simp [nmCh, h3, h4]
            · walk_at "w"
              exact hn (by simp only [Bool.not_eq_false', decide_eq_true_eq] at h4; simp [nmCh, h4])
          · walk_at "w"
            exact hn (by simp only [Bool.not_eq_false', decide_eq_true_eq] at h3; simp [nmCh, h3])
        · obtain ⟨s, rfl, hI⟩ := hI
          rw [chD_len, el, List.take_length] at hI
          walk_at "w"
          cases e : TL.tl x with
          | nil => rw [e] at el; simp at el; omega
          | cons c r =>
            refine od_ixS (c := c) (by omega) (by show atI (TL.tl x) 0 = _; rw [e]; exact atI_nat (j := 0) rfl) ?_
            walk_at "w"
            exact Pto p (nameL_yes e (by omega) hI)
    · walk_at "w"
      refine Pto p (nameL_no fun l => ?_)
      simp only [decide_eq_false_iff_not] at h1; omega
  | dct _ _ => exact hd.elim
  | ltr _ _ _ _ _ => exact hd.elim
  | scr _ => exact hd.elim
  | _ => walk_at "w"; exact p
theorem ok_is_number (T : Txt w K mg C CB) : CallOk Pr w K mg base CX0 1 "is_number" ["thing"] (spP K C (fD isNumD)) := by
  refine T.d_is_number.ok sc_is_number (fun vs H Q E h => len_P Fn1.len h) (fun f cdv A outer s H vs Q E hr h => ⟨_, (pss_cons (ps_if (PW.pt (pw_or (pt_not (pt_val (pe_callB call_isi (by rfl) T.n_isinstance bb_isinstance (pa_cons (pv 0) (pa_cons (pe_bltn (v := .ty "int") (by rfl) T.n_int bb_int rfl) pa_nil))))) (pw_or1 (pt_val (pe_callB call_isi (by rfl) T.n_isinstance bb_isinstance (pa_cons (pv 0) (pa_cons (pe_bltn (v := .ty "bool") (by rfl) T.n_bool bb_bool rfl) pa_nil))))))) (pss_one (ps_ret pe_bl)) pss_nil)
      (pss_one (ps_ret (pe_chain op_le op_le pe_int (pv 0) (pe_gi T.c_GREATEST_NUMBER))))), body_P h fun ds P hf => ?_⟩)
  obtain ⟨d, rfl, hd, p⟩ := hf
  refine ⟨Nat.le_of_ble_eq_true rfl, ?_⟩
  show WS _ _ [.dat d] _ _ _ _
  try dsimp only [cxOf]
  cases d with
  | int i =>
    walk_at "w"
    refine if_2 (fun h1 => ?_) (fun h1 => ?_)
    · walk_at "w"
      exact Pto p (by show numOk i = _; unfold numOk; rw [h1]; rfl)
    · exact Pto p (by show numOk i = _; unfold numOk; rw [h1]; rfl)
  | dct _ _ => exact hd.elim
  | ltr _ _ _ _ _ => exact hd.elim
  | scr _ => exact hd.elim
  | _ => walk_at "w"; exact p
theorem ok_is_plain (T : Txt w K mg C CB) : CallOk Pr w K mg base CX0 1 "is_plain" ["text"] (spP K C (fIsPlain)) := by
  refine T.d_is_plain.ok sc_is_plain (fun vs H Q E h => len_P Fn1.len h) (fun f cdv A outer s H vs Q E hr h => ⟨_, (pss_cons (ps_for PassesOwn.never rfl (pi_str (pv 0)) (pg_name (i := 1) sc_is_plain.nd rfl (.inl rfl))
      (pss_one (ps_if (pt_not (pt_chain op_le op_le pe_int (pe_callB cOrd (by rfl) T.n_ord bb_ord (pa_cons (pv 1) pa_nil)) pe_int)) (pss_one (ps_ret pe_bl)) pss_nil)))
      (pss_one (ps_ret pe_bl))), body_P h fun ds P hf => ?_⟩)
  obtain ⟨_, rfl, x, rfl, hx, p⟩ := hf
  refine ⟨Nat.le_of_ble_eq_true rfl, ?_⟩
  show WS _ _ [.dat (.str x), .un] _ _ _ _
  try dsimp only [cxOf]
  walk_at "w"
  have el := TL.len_tl x
  refine ForInv.mk (fun i τ' => ∃ s, τ' = [.dat (.str x), s] ∧ ∀ c ∈ (TL.tl x).take i, plCh c = true) ⟨.un, rfl, by simp⟩ (fun i d τ' hd hI => ?_) (fun τ' hI => ?_)
  · obtain ⟨s, rfl, hI⟩ := hI
    obtain ⟨c, hc, rfl⟩ := chD_get hd
    walk_at "w"
    have bad : plCh c = false → P (.bl false) := fun h => by
      refine Pto p ?_
      unfold plainL
      rw [List.all_eq_false]; exact ⟨c, List.mem_iff_getElem?.mpr ⟨i, hc⟩, by rw [h]; decide⟩
    refine if_2 (fun h1 => ?_) (fun h1 => ?_)
    · walk_at "w"
      refine if_2 (fun h2 => ?_) (fun h2 => ?_)
      · walk_at "w"
        exact bad (by simp at h1 h2; simp [plCh]; omega)
      · walk_at "w"
        intro c' hm
        rw [List.take_add_one, hc] at hm
        rcases List.mem_append.mp hm with q | q
        · exact hI c' q
        · simp at q; rw [q]; simp at h1 h2; simp [plCh]; omega
    · walk_at "w"
      exact bad (by simp at h1; simp [plCh]; omega)
  · obtain ⟨s, rfl, hI⟩ := hI
    rw [chD_len, el, List.take_length] at hI
    walk_at "w"
    exact Pto p (by unfold plainL; rw [List.all_eq_true]; exact hI)
end
end
section
open PySem PySem.Spec PyProof.Rows L2
open Evl (Ex ex_rd ex_l ex_t)
open CwR
set_option autoImplicit false
section
variable {Pr : Program} {w : World} {K : PySem.W.Frag} {mg : Str → Option Value} {base : Heap} {C CB : Addr}

theorem ok_is_text (T : Txt w K mg C CB) : CallOk Pr w K mg base CX0 2 "is_text" ["thing"] (spP K C (fD isTextD)) := by
  have c_is_plain := @ok_is_plain Pr w K mg base C CB T
  refine T.d_is_text.ok sc_is_text (fun vs H Q E h => len_P Fn1.len h) (fun f cdv A outer s H vs Q E hr h => ⟨_, (pss_ifT (PWf.pt (pwf_or (pt_not (pt_val (pe_callB call_isi (by rfl) T.n_isinstance bb_isinstance (pa_cons (pv 0) (pa_cons (pe_bltn (v := .ty "str") (by rfl) T.n_str bb_str rfl) pa_nil))))) (pwf_or1 (ptf_not (ptf_chain op_le op_le (pe_callB cLen (by rfl) T.n_len bb_len (pa_cons (pv 0) pa_nil)) (pe_gi T.c_LONGEST_TEXT)))))) (pss_one (ps_ret pe_bl)) (psst_one (pst_ret (pet_cal c_is_plain (hr.mono (by decide)) pass0 (pat_cons (pet_replC (pv 0)) pat_nil))))), body_P h fun ds P hf => ?_⟩)
  obtain ⟨d, rfl, hd, p⟩ := hf
  refine ⟨Nat.le_of_ble_eq_true rfl, ?_⟩
  show WS _ _ [.dat d] _ _ _ _
  try dsimp only [cxOf]
  cases d with
  | str x =>
    have hx : x.length ≤ 50000 := hd.1
    have el := TL.len_tl x
    have ez : (Str.ofString "").length = 0 := rfl
    walk_at "w"
    refine if_2 (fun h1 => ?_) (fun h1 => ?_)
    · have n1 := of_decide_eq_true h1
      walk_at "w"
      refine if_2 (fun h2 => ?_) (fun h2 => ?_)
      · walk_at "w"
        refine Pto p ?_
        simp only [Bool.not_eq_true', decide_eq_false_iff_not] at h2
        have : ¬ x.length ≤ 400 := by omega
        simp [isTextD, this]
      · walk_at "w"
        simp only [Bool.not_eq_false', decide_eq_true_eq] at h2
        have hb : (Txt.replace x (Str.ofString "\n") (Str.ofString "")).length ≤ 50000 := by
          rw [TL.len_tl, repl_nl]
          exact Nat.le_trans (List.length_filter_le _ _) (by omega)
        refine ⟨?_, ?_⟩
        · have : (Str.ofString "").length = 0 := rfl
          show x.length + (x.length + 1) * (Str.ofString "").length ≤ 16777216
          rw [this]; omega
        · walk_at "w"
          skip
          refine Pto p ?_
          rw [repl_nl]
          have e1 : 1 ≤ x.length := by omega
          have e2 : x.length ≤ 400 := by omega
          simp [isTextD, e1, e2]
    · walk_at "w"
      refine Pto p ?_
      simp only [decide_eq_false_iff_not] at h1
      have : ¬ 1 ≤ x.length := by omega
      simp [isTextD, this]
  | dct _ _ => exact hd.elim
  | ltr _ _ _ _ _ => exact hd.elim
  | scr _ => exact hd.elim
  | _ => walk_at "w"; exact p
theorem ok_is_title (T : Txt w K mg C CB) : CallOk Pr w K mg base CX0 2 "is_title" ["thing"] (spP K C (fD isTitleD)) := by
  have c_is_plain := @ok_is_plain Pr w K mg base C CB T
  refine T.d_is_title.ok sc_is_title (fun vs H Q E h => len_P Fn1.len h) (fun f cdv A outer s H vs Q E hr h => ⟨_, (pss_one (ps_ret (pe_and (pe_callB call_isi (by rfl) T.n_isinstance bb_isinstance (pa_cons (pv 0) (pa_cons (pe_bltn (v := .ty "str") (by rfl) T.n_str bb_str rfl) pa_nil))) (pe_and (pe_cmpR op_le (pe_callB cLen (by rfl) T.n_len bb_len (pa_cons (pv 0) pa_nil)) (pe_gi T.c_LONGEST_TITLE) (nomark _)) (pe_one (pe_cal c_is_plain (hr.mono (by decide)) pass0 (pa_cons (pv 0) pa_nil))))))), body_P h fun ds P hf => ?_⟩)
  obtain ⟨d, rfl, hd, p⟩ := hf
  refine ⟨Nat.le_of_ble_eq_true rfl, ?_⟩
  show WS _ _ [.dat d] _ _ _ _
  try dsimp only [cxOf]
  cases d with
  | str x =>
    have hx : x.length ≤ 50000 := hd.1
    walk_at "w"
    refine if_2 (fun h1 => ?_) (fun h1 => ?_)
    · have h1 := of_decide_eq_true h1
      have e2 : x.length ≤ 60 := by omega
      walk_at "w"
      refine Pto p ?_
      simp [isTitleD, e2]
    · refine Pto p ?_
      simp only [decide_eq_false_iff_not] at h1
      have : ¬ x.length ≤ 60 := by omega
      simp [isTitleD, this]
  | dct _ _ => exact hd.elim
  | ltr _ _ _ _ _ => exact hd.elim
  | scr _ => exact hd.elim
  | _ => walk_at "w"; exact p
theorem ok_is_ref (T : Txt w K mg C CB) : CallOk Pr w K mg base CX0 2 "is_ref" ["thing"] (spP K C (fD isRefD)) := by
  have c_is_name := @ok_is_name Pr w K mg base C CB T
  have c_is_number := @ok_is_number Pr w K mg base C CB T
  refine T.d_is_ref.ok sc_is_ref (fun vs H Q E h => len_P Fn1.len h) (fun f cdv A outer s H vs Q E hr h => ⟨_, (pss_one (ps_ret (pe_and (pe_callB call_isi (by rfl) T.n_isinstance bb_isinstance (pa_cons (pv 0) (pa_cons (pe_bltn (v := .ty "tuple") (by rfl) T.n_tuple bb_tuple rfl) pa_nil))) (pe_and (pe_cmpR op_eq (pe_callB cLen (by rfl) T.n_len bb_len (pa_cons (pv 0) pa_nil)) pe_int (nomark _)) (pe_and (pe_cal c_is_name (hr.mono (by decide)) pass0 (pa_cons (pe_ix ix_tup (pv 0) pe_int (fun _ _ => rfl)) pa_nil)) (pe_one (pe_cal c_is_number (hr.mono (by decide)) pass0 (pa_cons (pe_ix ix_tup (pv 0) pe_int (fun _ _ => rfl)) pa_nil)))))))), body_P h fun ds P hf => ?_⟩)
  obtain ⟨d, rfl, hd, p⟩ := hf
  refine ⟨Nat.le_of_ble_eq_true rfl, ?_⟩
  show WS _ _ [.dat d] _ _ _ _
  try dsimp only [cxOf]
  cases d with
  | tup ds =>
    match ds, hd, p with
    | [], _, p => walk_at "w"; exact p
    | [_], _, p => walk_at "w"; exact p
    | [a, n], hd, p =>
      have ha : Sm a := hd.2.1
      have hn : Sm n := hd.2.2.1
      walk_at "w"
      refine if_2 (fun h1 => ?_) (fun h1 => ?_)
      · walk_at "w"
        refine Pto p ?_
        show (isNameD a && isNumD n) = _
        rw [h1]; rfl
      · refine Pto p ?_
        show (isNameD a && isNumD n) = _
        rw [h1]; rfl
    | a :: b :: c :: r, _, p =>
      walk_at "w"
      exact p
  | dct _ _ => exact hd.elim
  | ltr _ _ _ _ _ => exact hd.elim
  | scr _ => exact hd.elim
  | _ => walk_at "w"; exact p
theorem ok_is_members (T : Txt w K mg C CB) : CallOk Pr w K mg base CX0 2 "is_members" ["thing"] (spP K C (fD isMembersD)) := by
  have c_is_name := @ok_is_name Pr w K mg base C CB T
  refine T.d_is_members.ok sc_is_members (fun vs H Q E h => len_P Fn1.len h) (fun f cdv A outer s H vs Q E hr h => ⟨_, (pss_cons (ps_if (PW.pt (pw_or (pt_not (pt_val (pe_callB call_isi (by rfl) T.n_isinstance bb_isinstance (pa_cons (pv 0) (pa_cons (pe_bltn (v := .ty "tuple") (by rfl) T.n_tuple bb_tuple rfl) pa_nil))))) (pw_or1 (pt_cmpR op_gt (pe_callB cLen (by rfl) T.n_len bb_len (pa_cons (pv 0) pa_nil)) (pe_gi T.c_MOST_MEMBERS) (nomark _))))) (pss_one (ps_ret pe_bl)) pss_nil)
      (pss_cons (ps_for PassesOwn.never rfl (pi_enumT rfl T.n_enumerate (pa_cons (pv 0) pa_nil)) (pg_tup rfl (pgs_cons (pg_name (i := 1) sc_is_members.nd rfl (.inl rfl)) (pgs_cons (pg_name (i := 2) sc_is_members.nd rfl (.inl rfl)) pgs_nil)))
      (pss_cons (ps_if (pt_not (pt_val (pe_cal c_is_name (hr.mono (by decide)) pass0 (pa_cons (pv 2) pa_nil)))) (pss_one (ps_ret pe_bl)) pss_nil)
      (pss_one (ps_if (PW.pt (pw_and (pt_cmpR op_gt (pv 1) pe_int (nomark _)) (pw_and1 (pt_cmpR oLeS (pv 2) (pe_ix ix_tup (pv 0) (pe_op op_sub (pv 1) pe_int) (fun _ _ => rfl)) (nomark _))))) (pss_one (ps_ret pe_bl)) pss_nil))))
      (pss_one (ps_ret pe_bl)))), body_P h fun ds P hf => ?_⟩)
  obtain ⟨d, rfl, hd, p⟩ := hf
  refine ⟨Nat.le_of_ble_eq_true rfl, ?_⟩
  show WS _ _ [.dat d, .un, .un] _ _ _ _
  try dsimp only [cxOf]
  cases d with
  | tup ds =>
    have hs : SmL ds := hd.2
    walk_at "w"
    refine if_2 (fun h1 => ?_) (fun h1 => ?_)
    · walk_at "w"
      refine Pto p ?_
      have h1 := of_decide_eq_true h1
      have : ¬ ds.length ≤ 15 := by omega
      simp [isMembersD, this]
    · walk_at "w"
      simp only [decide_eq_false_iff_not] at h1
      have hl : ds.length ≤ 15 := by omega
      have eM : isMembersD (.tup ds) = (ds.all isNameD && ascL (ds.map strD)) := by simp [isMembersD, hl]
      refine ForInv.mk (fun i τ' => ∃ s t, τ' = [.dat (.tup ds), s, t] ∧ (ds.take i).all isNameD = true ∧ ascL ((ds.take i).map strD) = true) ⟨.un, .un, rfl, rfl, rfl⟩ (fun i d τ' hd' hI => ?_) (fun τ' hI => ?_)
      · obtain ⟨s, t, rfl, hI, hA⟩ := hI
        obtain ⟨d, hd, rfl⟩ := enD_get hd'
        have hsd : Sm d := hs.get hd
        walk_at "w"
        have tk : ds.take (i + 1) = ds.take i ++ [d] := by rw [List.take_add_one, hd]; rfl
        refine if_2 (fun h2 => ?_) (fun h2 => ?_)
        · walk_at "w"
          refine Pto p ?_
          have h2 : isNameD d = false := by simpa using h2
          have : ds.all isNameD = false := by rw [List.all_eq_false]; exact ⟨d, List.mem_iff_getElem?.mpr ⟨i, hd⟩, by rw [h2]; decide⟩
          rw [eM, this]; rfl
        · have h2 : isNameD d = true := by simpa using h2
          obtain ⟨x, rfl⟩ := isNameD_str h2
          have hn : (ds.take (i + 1)).all isNameD = true := by rw [tk, List.all_append, hI]; simp [h2]
          walk_at "w"
          refine if_2 (fun h3 => ?_) (fun h3 => ?_)
          · have h3 := of_decide_eq_true h3
            obtain ⟨j, rfl⟩ : ∃ j, i = j + 1 := ⟨i - 1, by omega⟩
            have hj : j < ds.length := by have := (List.getElem?_eq_some_iff.mp hd).1; omega
            obtain ⟨e, he⟩ : ∃ e, ds[j]? = some e := ⟨_, List.getElem?_eq_getElem hj⟩
            have tj : ds.take (j + 1) = ds.take j ++ [e] := by rw [List.take_add_one, he]; rfl
            have hne : isNameD e = true := List.all_eq_true.mp hI e (by rw [tj]; simp)
            obtain ⟨y, rfl⟩ := isNameD_str hne
            walk_at "w"
            refine od_ixT (d := .str y) (atI_sub1 he) ?_
            walk_at "w"
            refine if_2 (fun h4 => ?_) (fun h4 => ?_)
            · walk_at "w"
              refine Pto p ?_
              rw [eM]
              have : ascL (ds.map strD) = false := by
                refine ascL_bad (n := j + 1 + 1) ?_
                rw [← List.map_take, tk, tj]
                simp only [List.map_append, List.map_cons, List.map_nil, List.append_assoc]
                refine ascL_snoc_bad ?_
                simpa [ltS, strD, TL.tl] using h4
              rw [this]; simp
            · walk_at "w"
              rw [tj] at hA
              rw [tk, tj]
              simp only [List.map_append, List.map_cons, List.map_nil, List.append_assoc] at hA ⊢
              refine ascL_snoc hA ?_
              simpa [ltS, strD, TL.tl] using h4
          · walk_at "w"
            have h3 : i = 0 := by simp at h3; omega
            subst h3
            rw [tk]; rfl
      · obtain ⟨s, t, rfl, hI, hA⟩ := hI
        rw [enD_len, List.take_length] at hI hA
        walk_at "w"
        exact Pto p (by rw [eM, hI, hA]; rfl)
  | dct _ _ => exact hd.elim
  | ltr _ _ _ _ _ => exact hd.elim
  | scr _ => exact hd.elim
  | _ => walk_at "w"; exact p
end
end
section
open PySem PySem.Spec PyProof.Rows L2
open Evl (Ex ex_rd ex_l ex_t)
open CwR
set_option autoImplicit false

local macro_rules | `(tactic| walk_at "long") => `(tactic| try ((refine if_is (v := true) ?e ?h); (case e => (simp only [List.length_cons, Bool.not_eq_true', decide_eq_false_iff_not]; omega)); (walk_at "w")))
section
variable {Pr : Program} {w : World} {K : PySem.W.Frag} {mg : Str → Option Value} {base : Heap} {C CB : Addr}
theorem ok_is_seen (T : Txt w K mg C CB) : CallOk Pr w K mg base CX0 3 "is_seen" ["thing"] (spP K C (fD isSeenD)) := by
  have c_is_ref := @ok_is_ref Pr w K mg base C CB T
  refine T.d_is_seen.ok sc_is_seen (fun vs H Q E h => len_P Fn1.len h) (fun f cdv A outer s H vs Q E hr h => ⟨_, (pss_cons (ps_if (pt_not (pt_val (pe_callB call_isi (by rfl) T.n_isinstance bb_isinstance (pa_cons (pv 0) (pa_cons (pe_bltn (v := .ty "tuple") (by rfl) T.n_tuple bb_tuple rfl) pa_nil))))) (pss_one (ps_ret pe_bl)) pss_nil)
      (pss_cons (ps_for PassesOwn.never rfl (pi_enumT rfl T.n_enumerate (pa_cons (pv 0) pa_nil)) (pg_tup rfl (pgs_cons (pg_name (i := 1) sc_is_seen.nd rfl (.inl rfl)) (pgs_cons (pg_name (i := 2) sc_is_seen.nd rfl (.inl rfl)) pgs_nil)))
      (pss_cons (ps_if (pt_not (pt_val (pe_cal c_is_ref (hr.mono (by decide)) pass0 (pa_cons (pv 2) pa_nil)))) (pss_one (ps_ret pe_bl)) pss_nil)
      (pss_one (ps_if (PW.pt (pw_and (pt_cmpR op_gt (pv 1) pe_int (nomark _)) (pw_and1 (pt_cmpR oLeS (pe_ix ix_tup (pv 2) pe_int (fun _ _ => rfl)) (pe_ix ix_tup (pe_ix ix_tup (pv 0) (pe_op op_sub (pv 1) pe_int) (fun _ _ => rfl)) pe_int (fun _ _ => rfl)) (nomark _))))) (pss_one (ps_ret pe_bl)) pss_nil))))
      (pss_one (ps_ret pe_bl)))), body_P h fun ds P hf => ?_⟩)
  obtain ⟨d, rfl, hd, p⟩ := hf
  refine ⟨Nat.le_of_ble_eq_true rfl, ?_⟩
  show WS _ _ [.dat d, .un, .un] _ _ _ _
  try dsimp only [cxOf]
  cases d with
  | tup ds =>
    have hs : SmL ds := hd.2
    walk_at "w"
    have eM : isSeenD (.tup ds) = (ds.all isRefD && ascL (ds.map fun d => strD (fstD d))) := rfl
    refine ForInv.mk (fun i τ' => ∃ s t, τ' = [.dat (.tup ds), s, t] ∧ (ds.take i).all isRefD = true ∧ ascL ((ds.take i).map fun d => strD (fstD d)) = true) ⟨.un, .un, rfl, rfl, rfl⟩ (fun i d τ' hd' hI => ?_) (fun τ' hI => ?_)
    · obtain ⟨s, t, rfl, hI, hA⟩ := hI
      obtain ⟨d, hd, rfl⟩ := enD_get hd'
      have hsd : Sm d := hs.get hd
      walk_at "w"
      have tk : ds.take (i + 1) = ds.take i ++ [d] := by rw [List.take_add_one, hd]; rfl
      refine if_2 (fun h2 => ?_) (fun h2 => ?_)
      · walk_at "w"
        refine Pto p ?_
        have h2 : isRefD d = false := by simpa using h2
        have : ds.all isRefD = false := by rw [List.all_eq_false]; exact ⟨d, List.mem_iff_getElem?.mpr ⟨i, hd⟩, by rw [h2]; decide⟩
        rw [eM, this]; rfl
      · have h2 : isRefD d = true := by simpa using h2
        have hn : (ds.take (i + 1)).all isRefD = true := by rw [tk, List.all_append, hI]; simp [h2]
        obtain ⟨x, n, rfl, _⟩ := isRefD_eq h2
        walk_at "w"
        refine if_2 (fun h3 => ?_) (fun h3 => ?_)
        · have h3 := of_decide_eq_true h3
          obtain ⟨j, rfl⟩ : ∃ j, i = j + 1 := ⟨i - 1, by omega⟩
          have hj : j < ds.length := by have := (List.getElem?_eq_some_iff.mp hd).1; omega
          obtain ⟨e, he⟩ : ∃ e, ds[j]? = some e := ⟨_, List.getElem?_eq_getElem hj⟩
          have tj : ds.take (j + 1) = ds.take j ++ [e] := by rw [List.take_add_one, he]; rfl
          have hne : isRefD e = true := List.all_eq_true.mp hI e (by rw [tj]; simp)
          obtain ⟨y, m, rfl, _⟩ := isRefD_eq hne
          walk_at "w"
          refine od_ixT (d := .tup [.str y, .int m]) (atI_sub1 he) ?_
          walk_at "w"
          refine if_2 (fun h4 => ?_) (fun h4 => ?_)
          · walk_at "w"
            refine Pto p ?_
            rw [eM]
            have : ascL (ds.map fun d => strD (fstD d)) = false := by
              refine ascL_bad (n := j + 1 + 1) ?_
              rw [← List.map_take, tk, tj]
              simp only [List.map_append, List.map_cons, List.map_nil, List.append_assoc]
              refine ascL_snoc_bad ?_
              simpa [ltS, strD, fstD, TL.tl] using h4
            rw [this]; simp
          · walk_at "w"
            rw [tj] at hA
            rw [tk, tj]
            simp only [List.map_append, List.map_cons, List.map_nil, List.append_assoc] at hA ⊢
            refine ascL_snoc hA ?_
            simpa [ltS, strD, fstD, TL.tl] using h4
        · walk_at "w"
          have h3 : i = 0 := by simp at h3; omega
          subst h3
          rw [tk]; rfl
    · obtain ⟨s, t, rfl, hI, hA⟩ := hI
      rw [enD_len, List.take_length] at hI hA
      walk_at "w"
      exact Pto p (by rw [eM, hI, hA]; rfl)
  | dct _ _ => exact hd.elim
  | ltr _ _ _ _ _ => exact hd.elim
  | scr _ => exact hd.elim
  | _ => walk_at "w"; exact p
theorem ok_is_body (T : Txt w K mg C CB) : CallOk Pr w K mg base CX0 3 "is_body" ["thing"] (spP K C (fD isBodyD)) := by
  have c_is_members := @ok_is_members Pr w K mg base C CB T
  have c_is_name := @ok_is_name Pr w K mg base C CB T
  have c_is_ref := @ok_is_ref Pr w K mg base C CB T
  have c_is_text := @ok_is_text Pr w K mg base C CB T
  have c_is_title := @ok_is_title Pr w K mg base C CB T
  refine T.d_is_body.ok sc_is_body (fun vs H Q E h => len_P Fn1.len h) (fun f cdv A outer s H vs Q E hr h => ⟨_, (pss_cons (ps_if (PW.pt (pw_or (pt_not (pt_val (pe_callB call_isi (by rfl) T.n_isinstance bb_isinstance (pa_cons (pv 0) (pa_cons (pe_bltn (v := .ty "tuple") (by rfl) T.n_tuple bb_tuple rfl) pa_nil))))) (pw_or (pt_cmpR op_eq (pe_callB cLen (by rfl) T.n_len bb_len (pa_cons (pv 0) pa_nil)) pe_int (nomark _)) (pw_or1 (pt_not (pt_val (pe_callB call_isi (by rfl) T.n_isinstance bb_isinstance (pa_cons (pe_ix ix_tup (pv 0) pe_int (fun _ _ => rfl)) (pa_cons (pe_bltn (v := .ty "str") (by rfl) T.n_str bb_str rfl) pa_nil))))))))) (pss_one (ps_ret pe_bl)) pss_nil)
      (pss_cons (ps_set (i := 1) sc_is_body.nd rfl (.inl rfl) (pe_ix ix_tup (pv 0) pe_int (fun _ _ => rfl)))
      (pss_cons (ps_if (pt_cmpR op_ne (pe_parts (hu_of hr) T.parts (pv 1)) (pe_op op_sub (pe_callB cLen (by rfl) T.n_len bb_len (pa_cons (pv 0) pa_nil)) pe_int) (nomark _)) (pss_one (ps_ret pe_bl)) pss_nil)
      (pss_cons (ps_if (pt_cmpR op_eq (pv 1) pe_str (nomark _)) (pss_one (ps_ret (pe_and (pe_cal c_is_title (hr.mono (by decide)) pass0 (pa_cons (pe_ix ix_tup (pv 0) pe_int (fun _ _ => rfl)) pa_nil)) (pe_one (pe_cal c_is_members (hr.mono (by decide)) pass0 (pa_cons (pe_ix ix_tup (pv 0) pe_int (fun _ _ => rfl)) pa_nil)))))) pss_nil)
      (pss_cons (ps_if (PW.pt (pw_and (pt_cmpR op_in_seq (pv 1) (pe_tup (pa_cons pe_str (pa_cons pe_str (pa_cons pe_str (pa_cons pe_str pa_nil))))) (by rfl)) (pw_and1 (pt_not (pt_val (pe_cal c_is_ref (hr.mono (by decide)) pass0 (pa_cons (pe_ix ix_tup (pv 0) pe_int (fun _ _ => rfl)) pa_nil))))))) (pss_one (ps_ret pe_bl)) pss_nil)
      (pss_cons (ps_if (pt_cmpR op_in_seq (pv 1) (pe_tup (pa_cons pe_str (pa_cons pe_str (pa_cons pe_str pa_nil)))) (by rfl)) (pss_one (ps_ret (pe_cal c_is_text (hr.mono (by decide)) pass0 (pa_cons (pe_ix ix_tup (pv 0) (pe_un un_neg pe_int) (fun _ _ => rfl)) pa_nil)))) pss_nil)
      (pss_cons (ps_if (pt_cmpR op_eq (pv 1) pe_str (nomark _)) (pss_one (ps_ret (pe_cal c_is_title (hr.mono (by decide)) pass0 (pa_cons (pe_ix ix_tup (pv 0) pe_int (fun _ _ => rfl)) pa_nil)))) pss_nil)
      (pss_cons (ps_if (pt_cmpR op_in_seq (pv 1) (pe_tup (pa_cons pe_str (pa_cons pe_str (pa_cons pe_str (pa_cons pe_str pa_nil))))) (by rfl)) (pss_one (ps_ret (pe_cal c_is_name (hr.mono (by decide)) pass0 (pa_cons (pe_ix ix_tup (pv 0) (pe_un un_neg pe_int) (fun _ _ => rfl)) pa_nil)))) pss_nil)
      (pss_one (ps_ret pe_bl)))))))))), body_P h fun ds P hf => ?_⟩)
  obtain ⟨d, rfl, hd, p⟩ := hf
  refine ⟨Nat.le_of_ble_eq_true rfl, ?_⟩
  show WS _ _ [.dat d, .un] _ _ _ _
  try dsimp only [cxOf]
  cases d with
  | tup ds =>
    cases ds with
    | nil => walk_at "w"; exact p
    | cons d0 r =>
    have hs : SmL (d0 :: r) := hd.2
    have sm0 : Sm d0 := hs.1
    have hc : decide (((d0 :: r).length : Int) = 0) = false := by simp only [List.length_cons, decide_eq_false_iff_not]; omega
    cases d0 with
    | str k =>
      walk_at "w"
      have el : ((D.str k :: r).length : Int) - 1 = (r.length : Nat) := by simp only [List.length_cons]; omega
      rw [el]
      by_cases hp : partsD k = .int (r.length : Nat)
      · refine od_neP hp ?_
        have e9 : (!decide (((r.length : Nat) : Int) = (r.length : Nat))) = false := by simp
        rw [e9]
        walk_at "w"
        rcases kinds_of hp with ⟨hl, hk⟩ | ⟨hl, hk⟩ | ⟨hl, hk⟩
        · match r, hl, hs, p with
          | [], _, hs, p => subst hk; walk_at "w"; exact p
        · match r, hl, hs, p with
          | [a], _, hs, p =>
            have sa : Sm a := hs.2.1
            rcases hk with rfl | rfl | rfl | rfl | rfl | rfl
            · cases e0 : isTextD a <;> walk_at "w" <;> exact Pto p (by show (isTextD a) = _; simp only [e0, Bool.and_self, Bool.and_true, Bool.and_false])
            · cases e0 : isRefD a <;> walk_at "w" <;> exact Pto p (by show (isRefD a) = _; simp only [e0, Bool.and_self, Bool.and_true, Bool.and_false])
            · cases e0 : isTitleD a <;> walk_at "w" <;> exact Pto p (by show (isTitleD a) = _; simp only [e0, Bool.and_self, Bool.and_true, Bool.and_false])
            · cases e0 : isNameD a <;> walk_at "w" <;> exact Pto p (by show (isNameD a) = _; simp only [e0, Bool.and_self, Bool.and_true, Bool.and_false])
            · cases e0 : isNameD a <;> walk_at "w" <;> exact Pto p (by show (isNameD a) = _; simp only [e0, Bool.and_self, Bool.and_true, Bool.and_false])
            · cases e0 : isNameD a <;> walk_at "w" <;> exact Pto p (by show (isNameD a) = _; simp only [e0, Bool.and_self, Bool.and_true, Bool.and_false])
        · match r, hl, hs, p with
          | [a, b], _, hs, p =>
            have sa : Sm a := hs.2.1
            have sb : Sm b := hs.2.2.1
            rcases hk with rfl | rfl | rfl | rfl
            · cases e0 : isTitleD a <;> cases e1 : isMembersD b <;> walk_at "w" <;> exact Pto p (by show (isTitleD a && isMembersD b) = _; simp only [e0, e1, Bool.and_self, Bool.and_true, Bool.and_false])
            · cases e0 : isRefD a <;> cases e1 : isTextD b <;> walk_at "w" <;> exact Pto p (by show (isRefD a && isTextD b) = _; simp only [e0, e1, Bool.and_self, Bool.and_true, Bool.and_false])
            · cases e0 : isRefD a <;> cases e1 : isTextD b <;> walk_at "w" <;> exact Pto p (by show (isRefD a && isTextD b) = _; simp only [e0, e1, Bool.and_self, Bool.and_true, Bool.and_false])
            · cases e0 : isRefD a <;> cases e1 : isNameD b <;> walk_at "w" <;> exact Pto p (by show (isRefD a && isNameD b) = _; simp only [e0, e1, Bool.and_self, Bool.and_true, Bool.and_false])
      · have hn := isBodyD_len hp
        have hx : ∀ P', P' (.bl true) → OpD (⟨K, C, noG⟩ : Bx) rNe (partsD k) (.int (r.length : Nat)) P' := fun P' p' => by
          rcases partsD_int k with ⟨n, e⟩ | e
          · refine od_neP e ?_
            have : (!decide (((n : Nat) : Int) = (r.length : Nat))) = true := by
              simp only [Bool.not_eq_true', decide_eq_false_iff_not]
              exact fun z => hp (by rw [e, z])
            rw [this]; exact p'
          · rw [e]; exact od_neNI p'
        refine hx _ ?_
        walk_at "w"
        exact Pto p hn
    | dct _ _ => exact sm0.elim
    | ltr _ _ _ _ _ => exact sm0.elim
    | scr _ => exact sm0.elim
    | _ => walk_at "w"; exact p
  | dct _ _ => exact hd.elim
  | ltr _ _ _ _ _ => exact hd.elim
  | scr _ => exact hd.elim
  | _ => walk_at "w"; exact p
end
end
section
open PySem PySem.Spec PyProof.Rows L2
open Evl (Ex ex_rd ex_l ex_t)
open CwR
set_option autoImplicit false
section
variable {Pr : Program} {w : World} {K : PySem.W.Frag} {mg : Str → Option Value} {base : Heap} {C CB : Addr}
theorem if_or {b c : Bool} {A B : Prop} (h1 : b = true → A) (h2 : b = false → c = true → A) (h3 : b = false → c = false → B) : (b || c) = true → A := fun h => by
  cases b with
  | true => exact h1 rfl
  | false => exact h2 rfl h
theorem ok_is_letter (T : Txt w K mg C CB) : CallOk Pr w K mg base CX0 4 "is_letter" ["thing"] (spP K C (fD isLetterD)) := by
  have c_is_body := @ok_is_body Pr w K mg base C CB T
  have c_is_name := @ok_is_name Pr w K mg base C CB T
  have c_is_number := @ok_is_number Pr w K mg base C CB T
  have c_is_seen := @ok_is_seen Pr w K mg base C CB T
  refine T.d_is_letter.ok sc_is_letter (fun vs H Q E h => len_P Fn1.len h) (fun f cdv A outer s H vs Q E hr h => ⟨_, (pss_cons (ps_if (PW.pt (pw_or (pt_not (pt_val (pe_callB call_isi (by rfl) T.n_isinstance bb_isinstance (pa_cons (pv 0) (pa_cons (pe_bltn (v := .ty "tuple") (by rfl) T.n_tuple bb_tuple rfl) pa_nil))))) (pw_or1 (pt_cmpR op_ne (pe_callB cLen (by rfl) T.n_len bb_len (pa_cons (pv 0) pa_nil)) pe_int (nomark _))))) (pss_one (ps_ret pe_bl)) pss_nil)
      (pss_cons (ps_asg (pv 0) (pg_tup rfl (pgs_cons (pg_name (i := 1) sc_is_letter.nd rfl (.inl rfl)) (pgs_cons (pg_name (i := 2) sc_is_letter.nd rfl (.inl rfl)) (pgs_cons (pg_name (i := 3) sc_is_letter.nd rfl (.inl rfl)) (pgs_cons (pg_name (i := 4) sc_is_letter.nd rfl (.inl rfl)) (pgs_cons (pg_name (i := 5) sc_is_letter.nd rfl (.inl rfl)) pgs_nil)))))))
      (pss_cons (ps_if (PW.pt (pw_or (pt_not (pt_val (pe_cal c_is_name (hr.mono (by decide)) pass0 (pa_cons (pv 1) pa_nil)))) (pw_or (pt_not (pt_val (pe_cal c_is_number (hr.mono (by decide)) pass0 (pa_cons (pv 2) pa_nil)))) (pw_or1 (pt_not (pt_val (pe_cal c_is_number (hr.mono (by decide)) pass0 (pa_cons (pv 3) pa_nil)))))))) (pss_one (ps_ret pe_bl)) pss_nil)
      (pss_cons (ps_if (PW.pt (pw_or (pt_not (pt_val (pe_cal c_is_seen (hr.mono (by decide)) pass0 (pa_cons (pv 4) pa_nil)))) (pw_or1 (pt_not (pt_val (pe_cal c_is_body (hr.mono (by decide)) pass0 (pa_cons (pv 5) pa_nil))))))) (pss_one (ps_ret pe_bl)) pss_nil)
      (pss_cons (ps_if (PW.pt (pw_or (pt_cmpR (op_notInDT (hu_of2 hr)) (pe_tup (pa_cons (pv 1) (pa_cons (pv 2) pa_nil))) (pv 4) (by rfl)) (pw_or1 (pt_cmpR op_lt (pv 3) (pv 2) (nomark _))))) (pss_one (ps_ret pe_bl)) pss_nil)
      (pss_cons (ps_if (pt_cmpR op_eq (pe_ix ix_tup (pv 5) pe_int (fun _ _ => rfl)) pe_str (nomark _)) (pss_one (ps_ret (pe_and (pe_cmpR op_eq (pv 3) pe_int (nomark _)) (pe_and (pe_cmpR (op_eqD hr.units) (pv 4) (pe_tup (pa_cons (pe_tup (pa_cons (pv 1) (pa_cons pe_int pa_nil))) pa_nil)) (nomark _)) (pe_one (pe_cmpR op_notIn_seq (pv 1) (pe_ix ix_tup (pv 5) pe_int (fun _ _ => rfl)) (by rfl))))))) pss_nil)
      (pss_one (ps_ret (pe_cmpR op_gt (pv 3) pe_int (nomark _)))))))))), body_P h fun ds P hf => ?_⟩)
  obtain ⟨d, rfl, hd, p⟩ := hf
  refine ⟨Nat.le_of_ble_eq_true rfl, ?_⟩
  show WS _ _ [.dat d, .un, .un, .un, .un, .un] _ _ _ _
  try dsimp only [cxOf]
  cases d with
  | tup ds =>
    by_cases hl : ds.length = 5
    · match ds, hl, hd, p with
      | [a, n, s, e, b], _, hd, p =>
        have sa : Sm a := hd.2.1
        have sn : Sm n := hd.2.2.1
        have ss : Sm s := hd.2.2.2.1
        have se : Sm e := hd.2.2.2.2.1
        have sb : Sm b := hd.2.2.2.2.2.1
        have eL : isLetterD (.tup [a, n, s, e, b]) = ((isNameD a && (isNumD n && isNumD s)) && ((isSeenD e && isBodyD b) && ((pairIn a n (tupD e) && decide (intD n ≤ intD s)) &&
          (if kindD b = "found" then decide (intD s = 1) && (decide ((tupD e).length = 1) && !(memD b).any (D.eqS (strD a))) else decide (1 < intD s))))) := rfl
        walk_at "w"
        cases e1 : isNameD a with
        | false => walk_at "w"; exact Pto p (by rw [eL, e1]; rfl)
        | true =>
        walk_at "w"
        cases e2 : isNumD n with
        | false => walk_at "w"; exact Pto p (by rw [eL, e1, e2]; rfl)
        | true =>
        walk_at "w"
        cases e3 : isNumD s with
        | false => walk_at "w"; exact Pto p (by rw [eL, e1, e2, e3]; rfl)
        | true =>
        walk_at "w"
        cases e4 : isSeenD e with
        | false => walk_at "w"; exact Pto p (by rw [eL, e4]; simp)
        | true =>
        walk_at "w"
        cases e5 : isBodyD b with
        | false => walk_at "w"; exact Pto p (by rw [eL, e4, e5]; simp)
        | true =>
        walk_at "w"
        obtain ⟨x, rfl⟩ := isNameD_str e1
        obtain ⟨i, rfl⟩ := isNumD_int e2
        obtain ⟨j, rfl⟩ := isNumD_int e3
        obtain ⟨es, rfl, hr, ha⟩ := isSeenD_eq e4
        obtain ⟨k, r, rfl⟩ := isBodyD_head e5
        have px : (D.tup [.str x, .int i]).pure = true := rfl
        have hpr : ∀ d ∈ es, d.pure = true := fun d hd => ref_pure (hr d hd)
        have q1 : (D.tup [.str x, .int i]).shp := Sm.shp ⟨(by decide : 2 ≤ 50000), sa, trivial, trivial⟩ (Nat.le_trans (dep_tup (n := 0) fun d hd => by
          rcases List.mem_cons.mp hd with e | e
          · rw [e]; exact dep_str
          · rcases List.mem_cons.mp e with e | e
            · rw [e]; exact dep_int
            · cases e) (by decide))
        have q2 : (D.tup es).shp := se.shp (Nat.le_trans (dep_tup fun d hd => ref_dep (hr d hd)) (by decide))
        refine od_niDT q1 q2 ?_
        have ep : ((D.pyL es).any fun z => PyData.eqv z (D.tup [.str x, .int i]).py) = pairIn (.str x) (.int i) es := by
          rw [Bool.eq_iff_iff, any_pyL px hpr, pairIn_iff hr]
        rw [ep]
        have eL : isLetterD (.tup [.str x, .int i, .int j, .tup es, .tup (.str k :: r)]) = (pairIn (.str x) (.int i) es && (decide (i ≤ j) &&
          (if k = "found" then decide (j = 1) && (decide (es.length = 1) && !(memD (.tup (.str k :: r))).any (D.eqS x)) else decide (1 < j)))) := by
          rw [eL, e1, e2, e3, e4, e5]
          simp only [Bool.true_and, Bool.and_assoc]; rfl
        walk_at "w"
        cases e6 : pairIn (.str x) (.int i) es with
        | false => walk_at "w"; exact Pto p (by rw [eL, e6]; rfl)
        | true =>
        walk_at "w"
        refine if_2 (fun h7 => ?_) (fun h7 => ?_)
        · walk_at "w"
          have h7 : ¬ i ≤ j := by have := of_decide_eq_true h7; omega
          exact Pto p (by rw [eL]; simp [h7])
        · have h7 : i ≤ j := by simp only [decide_eq_false_iff_not] at h7; omega
          have e7 : decide (i ≤ j) = true := by simp [h7]
          walk_at "w"
          by_cases hk : k = "found"
          · subst hk
            obtain ⟨t, m, rfl, ht, hm⟩ := isBodyD_found e5
            obtain ⟨ms, rfl, hml, hmn, _⟩ := isMembersD_eq hm
            have eL : isLetterD (.tup [.str x, .int i, .int j, .tup es, .tup [.str "found", t, .tup ms]]) = (decide (j = 1) && (decide (es.length = 1) && !ms.any (D.eqS x))) := by
              rw [eL, e6, e7]; rfl
            walk_at "w"
            refine if_2 (fun h8 => ?_) (fun h8 => ?_)
            · have h8' := of_decide_eq_true h8
              subst h8'
              have hi : i = 1 := by
                have := e2
                simp only [isNumD, numOk, Bool.and_eq_true, decide_eq_true_eq] at this
                omega
              subst hi
              walk_at "w"
              have q3 : (D.tup [.tup [.str x, .int 1]]).shp := Sm.shp ⟨(by decide : 1 ≤ 50000), ⟨(by decide : 2 ≤ 50000), sa, trivial, trivial⟩, trivial⟩ (Nat.le_trans (dep_tup (n := 1) fun d hd => by
                rcases List.mem_cons.mp hd with e | e
                · rw [e]
                  refine dep_tup (n := 0) fun d hd => ?_
                  rcases List.mem_cons.mp hd with e | e
                  · rw [e]; exact dep_str
                  · rcases List.mem_cons.mp e with e | e
                    · rw [e]; exact dep_int
                    · cases e
                · cases e) (by decide))
              refine od_eqD q2 q3 ?_
              have e9 : PyData.eqv (D.tup es).py (D.tup [.tup [.str x, .int 1]]).py = decide (es.length = 1) := by
                rw [Bool.eq_iff_iff, eqv_iff (.tup es) (.tup [.tup [.str x, .int 1]]) (pureL_of hpr) rfl, decide_eq_true_eq]
                constructor
                · intro e; cases e; rfl
                · intro hl
                  have hm := (pairIn_iff hr).mp e6
                  match es, hl, hm with
                  | [d], _, hm => rw [List.mem_singleton.mp hm]
              rw [e9]
              walk_at "w"
              refine if_2 (fun h9 => ?_) (fun h9 => ?_)
              · walk_at "w"
                refine od_niT (names_str hmn) ?_
                refine Pto p ?_
                rw [eL, h9]; rfl
              · refine Pto p ?_
                rw [eL, h9]; rfl
            · refine Pto p ?_
              rw [eL, h8]; rfl
          · have eL : isLetterD (.tup [.str x, .int i, .int j, .tup es, .tup (.str k :: r)]) = decide (1 < j) := by
              rw [eL, e6, e7, if_neg hk]; rfl
            have ek : decide (k = "found") = false := by simp [hk]
            walk_at "w"
            exact Pto p eL
    · have hf : isLetterD (.tup ds) = false := by
        unfold isLetterD
        split
        · exfalso; rename_i e; cases e; exact hl rfl
        · rfl
      walk_at "w"
      refine if_2 (fun h1 => ?_) (fun h1 => ?_)
      · walk_at "w"; exact Pto p hf
      · exfalso
        simp only [Bool.not_eq_false', decide_eq_true_eq] at h1
        omega
  | dct _ _ => exact hd.elim
  | ltr _ _ _ _ _ => exact hd.elim
  | scr _ => exact hd.elim
  | _ => walk_at "w"; exact p
end
end
section
open PySem PySem.Spec PyProof.Rows L2
open Evl (Ex ex_rd ex_l ex_t)
open CwR
set_option autoImplicit false
local macro_rules | `(tactic| walk_at "fld") => `(tactic| first | with_reducible refine wp_author (by assumption) (by assumption) ?_ | with_reducible refine wp_number (by assumption) (by assumption) ?_ | with_reducible refine wp_stamp (by assumption) (by assumption) ?_ | with_reducible refine wp_seen (by assumption) (by assumption) ?_ | with_reducible refine wp_body (by assumption) (by assumption) ?_)
open Bod (NmOk NuOk TtOk TxOk)
section
variable {Pr : Program} {w : World} {K : PySem.W.Frag} {mg : Str → Option Value} {base : Heap} {C CB : Addr}
theorem ok_read_body (T : Txt w K mg C CB) : CallOk Pr w K mg base CX0 3 "read_body" ["fields", "text"] (spP K C (fReadB)) := by
  have c_read_ref := @ok_read_ref Pr w K mg base C CB T
  refine T.d_read_body.ok sc_read_body (fun vs H Q E h => len_P Fn2.len h) (fun f cdv A outer s H vs Q E hr h => ⟨_, (pss_cons (ps_set (i := 2) sc_read_body.nd rfl (.inl rfl) (pe_dget2 (hu_of hr) (pv 0) pe_str pe_str ⟨rfl, rfl, rfl, rfl⟩))
      (pss_cons (ps_if (pt_cmpR op_eq (pv 2) pe_str (nomark _)) (pss_cons (ps_set (i := 3) sc_read_body.nd rfl (.inl rfl) (pe_dget2 (hu_of hr) (pv 0) pe_str pe_str ⟨rfl, rfl, rfl, rfl⟩))
      (pss_cons (ps_set (i := 4) sc_read_body.nd rfl (.inl rfl) (pe_ifExp (pt_tru (pv 3)) (pe_callTy cTupO (by rfl) T.n_tuple bb_tuple (pa_cons (pe_m1 PySem.F.slot_str_split PySem.F.type_str_split mSplit (pv 3) pe_str) pa_nil)) (pe_tup pa_nil)))
      (pss_one (ps_ret (pe_tup (pa_cons (pv 2) (pa_cons (pe_dget2 (hu_of hr) (pv 0) pe_str pe_str ⟨rfl, rfl, rfl, rfl⟩) (pa_cons (pv 4) pa_nil)))))))) pss_nil)
      (pss_cons (ps_if (pt_cmpR op_eq (pv 2) pe_str (nomark _)) (pss_one (ps_ret (pe_tup (pa_cons (pv 2) (pa_cons (pe_dget2 (hu_of hr) (pv 0) pe_str pe_str ⟨rfl, rfl, rfl, rfl⟩) pa_nil))))) pss_nil)
      (pss_cons (ps_if (pt_cmpR op_eq (pv 2) pe_str (nomark _)) (pss_one (ps_ret (pe_tup (pa_cons (pv 2) (pa_cons (pv 1) pa_nil))))) pss_nil)
      (pss_cons (ps_if (pt_cmpR op_in_seq (pv 2) (pe_tup (pa_cons pe_str (pa_cons pe_str pa_nil))) (by rfl)) (pss_one (ps_ret (pe_tup (pa_cons (pv 2) (pa_cons (pe_cal c_read_ref (hr.mono (by decide)) pass0 (pa_cons (pe_dget2 (hu_of hr) (pv 0) pe_str pe_str ⟨rfl, rfl, rfl, rfl⟩) pa_nil)) (pa_cons (pv 1) pa_nil)))))) pss_nil)
      (pss_cons (ps_if (pt_cmpR op_eq (pv 2) pe_str (nomark _)) (pss_one (ps_ret (pe_tup (pa_cons (pv 2) (pa_cons (pe_cal c_read_ref (hr.mono (by decide)) pass0 (pa_cons (pe_dget2 (hu_of hr) (pv 0) pe_str pe_str ⟨rfl, rfl, rfl, rfl⟩) pa_nil)) pa_nil))))) pss_nil)
      (pss_cons (ps_if (pt_cmpR op_eq (pv 2) pe_str (nomark _)) (pss_one (ps_ret (pe_tup (pa_cons (pv 2) (pa_cons (pe_cal c_read_ref (hr.mono (by decide)) pass0 (pa_cons (pe_dget2 (hu_of hr) (pv 0) pe_str pe_str ⟨rfl, rfl, rfl, rfl⟩) pa_nil)) (pa_cons (pe_dget2 (hu_of hr) (pv 0) pe_str pe_str ⟨rfl, rfl, rfl, rfl⟩) pa_nil)))))) pss_nil)
      (pss_cons (ps_if (pt_cmpR op_in_seq (pv 2) (pe_tup (pa_cons pe_str (pa_cons pe_str (pa_cons pe_str pa_nil)))) (by rfl)) (pss_one (ps_ret (pe_tup (pa_cons (pv 2) (pa_cons (pe_dget2 (hu_of hr) (pv 0) pe_str pe_str ⟨rfl, rfl, rfl, rfl⟩) pa_nil))))) pss_nil)
      (pss_one (ps_ret (pe_tup (pa_cons (pv 2) pa_nil)))))))))))), body_P h fun ds P hf => ?_⟩)
  obtain ⟨_, tx, rfl, kvs, rfl, hs, p⟩ := hf
  refine ⟨Nat.le_of_ble_eq_true rfl, ?_⟩
  show WS _ _ [.dat (dctP kvs), .dat tx, .un, .un, .un] _ _ _ _
  try dsimp only [cxOf]
  have fl := fun k => (fget_ok hs k).1.1
  have l1 := fl "Members"
  have l2 := fl "Ref"
  have l3 : (fget kvs (Str.ofString "Members")).length ≤ 90000 := by omega
  refine ws_seq ?_
  refine ws_asg ?_
  refine wp_fget ?_
  refine wp_var rfl ⟨_, rfl, hs, ?_⟩
  refine wg_name (Nat.le_of_ble_eq_true rfl) ?_
  generalize hk : fget kvs (Str.ofString "Kind") = k
  by_cases k0 : k = "found"
  · subst k0
    walk_at "w"
    refine wt_truS (wp_var rfl ⟨_, rfl, by omega, ?_⟩)
    by_cases hm : fget kvs "Members" = ""
    · have e : (((fget kvs "Members").length : Int) != 0) = false := by rw [hm]; rfl
      refine if_is e ?_
      walk_at "w"
      refine PtoD p ?_
      unfold bodyP
      rw [hk, if_pos rfl, if_pos hm]
    · have e : (((fget kvs "Members").length : Int) != 0) = true := by
        cases ht : TL.tl (fget kvs "Members") with
        | nil => exact absurd (TL.ext_tl (y := "") ht) hm
        | cons c r =>
          rw [TL.len_tl, ht]
          simp only [List.length_cons, bne_iff_ne, ne_eq]
          omega
      refine if_is e ?_
      walk_at "w"
      refine PtoD p ?_
      unfold bodyP
      rw [hk, if_pos rfl, if_neg hm]
  by_cases k1 : k = "title"
  · subst k1
    walk_at "w"
    exact PtoD p (by unfold bodyP; rw [hk]; rfl)
  by_cases k2 : k = "say"
  · subst k2
    walk_at "w"
    exact PtoD p (by unfold bodyP; rw [hk]; rfl)
  by_cases k3 : k = "reply"
  · subst k3
    walk_at "w"
    exact PtoD p (by unfold bodyP; rw [hk]; rfl)
  by_cases k4 : k = "edit"
  · subst k4
    walk_at "w"
    exact PtoD p (by unfold bodyP; rw [hk]; rfl)
  by_cases k5 : k = "recall"
  · subst k5
    walk_at "w"
    exact PtoD p (by unfold bodyP; rw [hk]; rfl)
  by_cases k6 : k = "mark"
  · subst k6
    walk_at "w"
    exact PtoD p (by unfold bodyP; rw [hk]; rfl)
  by_cases k7 : k = "add"
  · subst k7
    walk_at "w"
    exact PtoD p (by unfold bodyP; rw [hk]; rfl)
  by_cases k8 : k = "cut"
  · subst k8
    walk_at "w"
    exact PtoD p (by unfold bodyP; rw [hk]; rfl)
  by_cases k9 : k = "hand"
  · subst k9
    walk_at "w"
    exact PtoD p (by unfold bodyP; rw [hk]; rfl)
  have d0 : decide (k = "found") = false := by simp [k0]
  have d1 : decide (k = "title") = false := by simp [k1]
  have d2 : decide (k = "say") = false := by simp [k2]
  have d3 : [D.str "reply", D.str "edit"].any (D.eqS k) = false := by
    simp only [List.any_cons, List.any_nil, D.eqS, Bool.or_false, Bool.or_eq_false_iff, decide_eq_false_iff_not]
    exact ⟨fun z => k3 z.symm, fun z => k4 z.symm⟩
  have d5 : decide (k = "recall") = false := by simp [k5]
  have d6 : decide (k = "mark") = false := by simp [k6]
  have d7 : [D.str "add", D.str "cut", D.str "hand"].any (D.eqS k) = false := by
    simp only [List.any_cons, List.any_nil, D.eqS, Bool.or_false, Bool.or_eq_false_iff, decide_eq_false_iff_not]
    exact ⟨fun z => k7 z.symm, fun z => k8 z.symm, fun z => k9 z.symm⟩
  walk_at "w"
  refine PtoD p ?_
  unfold bodyP
  rw [hk, if_neg k0, if_neg k1, if_neg k2, if_neg k3, if_neg k4, if_neg k5, if_neg k6, if_neg k7, if_neg k8, if_neg k9]
/-- the letter that the lines and the text are of -/
def Acc (heads : List Str) (tx : Option Str) (L : Ltr) : Prop := L.ok ∧ L.hdr = heads ∧ L.b.text = tx
abbrev fReadH : FnX := FnX2 fun d e P PE => ∃ (heads : List Str) (tx : Option Str), d = .lst (heads.map .str) ∧ e = txO tx ∧ heads.length ≤ 50000 ∧ (∀ l ∈ heads, StrS l ∧ l.length < 50000) ∧ (∀ t, tx = some t → StrS t) ∧ (∀ L, Acc heads tx L → P L.l) ∧ ((∀ L, ¬ Acc heads tx L) → PE)
def refPD : D → D
  | .str w => refD (refP w).1 (refP w).2
  | d => d
theorem map_refPD (ws : List Str) : (ws.map D.str).map refPD = ws.map fun w => refD (refP w).1 (refP w).2 := by rw [List.map_map]; rfl
theorem sm_cand {heads : List Str} {tx : D} (h : ∀ l ∈ heads, StrS l ∧ l.length < 50000) (ht : Sm tx) : Sm (candP heads tx) := by
  have hA := AllS.fields fun l hl => (h l hl).1
  have f := fun k => (fget_ok hA k).1
  have g := fun k => fget_len (n := 49999) (fun l hl => by have := (h l hl).2; omega) k
  refine ⟨(by decide : 5 ≤ 50000), strS_refP (f "From"), trivial, trivial, ⟨?_, SmL.of fun d hd => ?_⟩, sm_bodyP hA ht (by have := g "Members"; omega), trivial⟩
  · rw [List.length_map]
    have := (split_parts (fget (fieldsP heads) "Seen") ", " (fun z => by cases z) (by decide +kernel)).1
    have := g "Seen"
    omega
  · obtain ⟨w, hw, rfl⟩ := List.mem_map.mp hd
    exact sm_refP (strS_split (fun z => by cases z) (by decide +kernel) (f "Seen") w hw)
end
end
section
open PySem PySem.Spec PyProof.Rows L2
open Evl (Ex ex_rd ex_l ex_t)
open CwR
set_option autoImplicit false
local macro_rules | `(tactic| walk_at "fld") => `(tactic| first | with_reducible refine wp_author (by assumption) (by assumption) ?_ | with_reducible refine wp_number (by assumption) (by assumption) ?_ | with_reducible refine wp_stamp (by assumption) (by assumption) ?_ | with_reducible refine wp_seen (by assumption) (by assumption) ?_ | with_reducible refine wp_body (by assumption) (by assumption) ?_)
open Bod (NmOk NuOk TtOk TxOk)
section
variable {Pr : Program} {w : World} {K : PySem.W.Frag} {mg : Str → Option Value} {base : Heap} {C CB : Addr}
theorem txO_inj {a b : Option Str} (h : txO a = txO b) : a = b := by
  cases a <;> cases b <;> first | rfl | cases h; rfl | cases h
theorem ok_read_headers (T : Txt w K mg C CB) : CallOk Pr w K mg base (L2.CX Pr w) 5 "read_headers" ["lines", "text"] (spX K C CB (fReadH)) := by
  have c_header_lines := @ok_header_lines Pr w K mg base C CB T
  have c_init := @ok_init Pr w K mg base C CB T
  have c_is_letter := @ok_is_letter Pr w K mg base C CB T
  have c_read_body := @ok_read_body Pr w K mg base C CB T
  have c_read_number := @ok_read_number Pr w K mg base C CB T
  have c_read_ref := @ok_read_ref Pr w K mg base C CB T
  have c_text_of := @ok_text_of Pr w K mg base C CB T
  refine T.d_read_headers.okX sc_read_headers (fun vs H Q E h => len_X FnX2.len h) (fun f cdv A outer s H vs Q E hr h => ⟨_, (pss_cons (ps_set (i := 2) sc_read_headers.nd rfl (.inl rfl) pe_dnewK)
      (pss_cons (ps_for (passes_of rfl) rfl (pi_list (pv 0)) (pg_name (i := 3) sc_read_headers.nd rfl (.inl rfl))
      (pss_cons (ps_asg (pe_m1 PySem.F.slot_str_partition PySem.F.type_str_partition mPart (pv 3) pe_str) (pg_tup rfl (pgs_cons (pg_name (i := 4) sc_read_headers.nd rfl (.inl rfl)) (pgs_cons (pg_name (i := 5) sc_read_headers.nd rfl (.inl rfl)) (pgs_cons (pg_name (i := 6) sc_read_headers.nd rfl (.inl rfl)) pgs_nil)))))
      (pss_one (ps_dput (hu_of hr) (pv 2) (pv 4) (pv 6) rfl))))
      (pss_cons (ps_asg (pe_cal c_read_ref (hr.mono (by decide)) pass0 (pa_cons (pe_dget2 (hu_of hr) (pv 2) pe_str pe_str ⟨rfl, rfl, rfl, rfl⟩) pa_nil)) (pg_tup rfl (pgs_cons (pg_name (i := 7) sc_read_headers.nd rfl (.inl rfl)) (pgs_cons (pg_name (i := 8) sc_read_headers.nd rfl (.inl rfl)) pgs_nil))))
      (pss_cons (ps_set (i := 9) sc_read_headers.nd rfl (.inl rfl) (pe_cal c_read_number (hr.mono (by decide)) pass0 (pa_cons (pe_dget2 (hu_of hr) (pv 2) pe_str pe_str ⟨rfl, rfl, rfl, rfl⟩) pa_nil)))
      (pss_cons (ps_set (i := 10) sc_read_headers.nd rfl (.inl rfl) (pe_callTy cTupO (by rfl) T.n_tuple bb_tuple (pa_cons (pe_lc (own := [("words", 13)]) (g := gName 13) (tt := tYes) rfl sc_read_headers.nd (pi_list (pe_m1 PySem.F.slot_str_split PySem.F.type_str_split mSplit (pe_dget2 (hu_of hr) (pv 2) pe_str pe_str ⟨rfl, rfl, rfl, rfl⟩) pe_str)) (blkOk_by (own := [("words", 13)]) (N := N_read_headers) (sc := defScope s_read_headers) (by decide +kernel)) (fun _ _ _ _ _ => pg_name (i := 13) sc_read_headers.nd rfl (Or.inl rfl)) (fun _ _ _ _ _ => pts_nil) (fun _ _ _ _ _ => (pe_cal c_read_ref (hr.mono (by decide)) pass0 (pa_cons (pv 13) pa_nil)))) pa_nil)))
      (pss_cons (ps_set (i := 11) sc_read_headers.nd rfl (.inl rfl) (pe_tup (pa_cons (pv 7) (pa_cons (pv 8) (pa_cons (pv 9) (pa_cons (pv 10) (pa_cons (pe_cal c_read_body (hr.mono (by decide)) pass0 (pa_cons (pv 2) (pa_cons (pv 1) pa_nil))) pa_nil)))))))
      (pss_cons (ps_if (pt_not (pt_val (pe_cal c_is_letter (hr.mono (by decide)) pass0 (pa_cons (pv 11) pa_nil)))) (pss_one (ps_raise rfl (takes_of rfl rfl rfl rfl) (pmk_bm T))) pss_nil)
      (pss_cons (ps_set (i := 12) sc_read_headers.nd rfl (.inl rfl) (pe_mk c_init T.g_Letter (hr.mono (by decide)) (pa_cons (pv 7) (pa_cons (pv 8) (pa_cons (pv 9) (pa_cons (pv 10) (pa_cons (pe_ix ix_tup (pv 11) pe_int (fun _ _ => rfl)) pa_nil)))))))
      (pss_cons (ps_if (PW.pt (pw_or (pt_cmpR (op_neD hr.units) (pe_cal c_header_lines (hr.mono (by decide)) pass0 (pa_cons (pv 12) pa_nil)) (pv 0) (nomark _)) (pw_or1 (pt_cmpR op_ne (pe_cal c_text_of (hr.mono (by decide)) pass0 (pa_cons (pe_fld (pv 12) rfl) pa_nil)) (pv 1) (nomark _))))) (pss_one (ps_raise rfl (takes_of rfl rfl rfl rfl) (pmk_bm T))) pss_nil)
      (pss_one (ps_ret (pv 12)))))))))))), body_X h fun ds P PE hf => ?_⟩)
  obtain ⟨_, _, rfl, heads, tx, rfl, rfl, hn, hL, hT, p, pe⟩ := hf
  have l0 := T.lcls
  have l1 := T.no_author
  have l2 := T.no_number
  have l3 := T.no_stamp
  have l4 := T.no_seen
  have l5 := T.no_body
  refine ⟨Nat.le_of_ble_eq_true rfl, ?_⟩
  show WS _ _ [.dat (.lst (heads.map .str)), .dat (txO tx), .un, .un, .un, .un, .un, .un, .un, .un, .un, .un, .un, .un] _ _ _ _
  try dsimp only [cxOf]
  have hS : ∀ l ∈ heads, StrS l := fun l hl => (hL l hl).1
  have hSm : Sm (txO tx) := by
    cases tx with
    | none => trivial
    | some t => exact hT t rfl
  have hA := AllS.fields hS
  have fS := fun k => (fget_ok hA k).1.1
  have g := fun k => fget_len (n := 49999) (fun l hl => by have := (hL l hl).2; omega) k
  have f1 := fS "From"
  have f2 := fS "Stamp"
  have f3 := fS "Seen"
  have f4 : (fget (fieldsP heads) (Str.ofString "Seen")).length ≤ 90000 := by omega
  refine ws_seq ?_
  refine ws_newd (Nat.le_of_ble_eq_true rfl) ?_
  refine ws_seq ?_
  refine ws_for (wi_list (wp_var rfl ⟨_, rfl, ?_⟩))
  refine ForInv.mk (fun i τ' => ∃ s3 s4 s5 s6, τ' = [.dat (.lst (heads.map .str)), .dat (txO tx), owndP (fieldsP (heads.take i)), s3, s4, s5, s6, .un, .un, .un, .un, .un, .un, .un]) ⟨.un, .un, .un, .un, rfl⟩ (fun i d τ' hd hI => ?_) (fun τ' hI => ?_)
  · obtain ⟨s3, s4, s5, s6, rfl⟩ := hI
    rw [List.getElem?_map] at hd
    obtain ⟨l, hl, rfl⟩ := Option.map_eq_some_iff.mp hd
    have hl1 := (hS l (List.mem_of_getElem? hl)).1
    have hl2 : l.length ≤ 100000 := by omega
    have et : fieldsP (heads.take (i + 1)) = putP (fieldsP (heads.take i)) (wordOf l) (.str (restOf l)) := by
      rw [List.take_add_one, hl]; exact fieldsP_snoc _ _
    have hfl : (fieldsP (heads.take i)).length < 100000 := by
      have := fieldsP_len (heads.take i)
      have : (heads.take i).length ≤ heads.length := by rw [List.length_take]; exact Nat.min_le_right _ _
      omega
    rw [et]
    walk_at "w"
    exact ⟨_, _, _, _, rfl⟩
  · obtain ⟨s3, s4, s5, s6, rfl⟩ := hI
    rw [List.length_map, List.take_length]
    refine ws_frz ?_
    show WS _ _ [.dat (.lst (heads.map .str)), .dat (txO tx), .dat (dctP (fieldsP heads)), _, _, _, _, .un, .un, .un, .un, .un, .un, .un] _ _ _ _
    walk_at "w"
    refine LcInv.map refPD ?la ?lb (fun i d hd => ?_) ?_
    case la => exact Nat.le_of_ble_eq_true rfl
    case lb =>
      rw [List.length_map]
      have := (split_parts (fget (fieldsP heads) ", ") ", " (fun z => by cases z) (by decide +kernel)).1
      have := (split_parts (fget (fieldsP heads) "Seen") ", " (fun z => by cases z) (by decide +kernel)).1
      omega
    · have hd := List.mem_of_getElem? hd
      obtain ⟨w, hw, rfl⟩ := List.mem_map.mp hd
      have hw1 := (strS_split (fun z => by cases z) (by decide +kernel) (fget_ok hA "Seen").1 w hw).1
      walk_at "w"
      rfl
    · rw [map_refPD]
      have hc := sm_cand hL hSm
      refine wa_nil (cd_tup ?_)
      refine wg_name (Nat.le_of_ble_eq_true rfl) ?_
      have hback : ∀ L, Acc heads tx L → candP heads (txO tx) = L.d := fun L hAcc => by
        rw [← hAcc.2.1, ← hAcc.2.2, ← txO_d]; exact cand_back L hAcc.1
      walk_at "w"
      refine if_2 (fun h1 => ?_) (fun h1 => ?_)
      · refine ws_raise (pe fun L hAcc => ?_)
        have h1 : (!isLetterD (candP heads (txO tx))) = true := h1
        rw [hback L hAcc, letter_ok hAcc.1] at h1
        cases h1
      · have h1 : (!isLetterD (candP heads (txO tx))) = false := h1
        have hlet : isLetterD (candP heads (txO tx)) = true := by simpa using h1
        obtain ⟨L, eL, ok⟩ := letter_eq hlet
        have hL5 : L.es.length ≤ 50000 := by
          have hc := hc
          rw [eL] at hc
          have := hc.2.2.2.2.1.1
          rwa [List.length_map] at this
        have q1 : D.str (refP (fget (fieldsP heads) "From")).1 = .str L.a := congrArg (fun d => (tupD d).getD 0 .non) eL
        have q2 : D.int (refP (fget (fieldsP heads) "From")).2 = .int L.n := congrArg (fun d => (tupD d).getD 1 .non) eL
        have q3 : D.int (numP (fget (fieldsP heads) "Stamp")) = .int L.s := congrArg (fun d => (tupD d).getD 2 .non) eL
        have q4 : D.tup ((Txt.split (fget (fieldsP heads) "Seen") ", ").map fun w => refD (refP w).1 (refP w).2) = L.esD := congrArg (fun d => (tupD d).getD 3 .non) eL
        have q5 : bodyP (fieldsP heads) (txO tx) = L.b.d := congrArg (fun d => (tupD d).getD 4 .non) eL
        rw [q1, q2, q3, q4, q5]
        have sh1 := shp_strs (hdr_ch ok)
        have sh2 := shp_strs (ss := heads) fun s hs => (hS s hs).2
        have hno : ¬ (L.hdr = heads ∧ L.b.text = tx) → ∀ M, ¬ Acc heads tx M := fun hn M hM => by
          have := hback M hM
          rw [eL] at this
          have := ltr_inj this
          subst this
          exact hn ⟨hM.2.1, hM.2.2⟩
        walk_at "w"
        refine od_neD sh1 sh2 ?_
        rw [eqv_strs]
        walk_at "w"
        by_cases c1 : L.hdr = heads
        · have d1 : (!decide (L.hdr = heads)) = false := by simp [c1]
          refine if_is d1 (if_f ?_)
          walk_at "w"
          rw [txO_d]
          refine od_neO ?_
          walk_at "w"
          by_cases c2 : L.b.text = tx
          · have d2 : (!decide (L.b.text = tx)) = false := by simp [c2]
            refine if_is d2 (if_f ?_)
            walk_at "w"
            exact p L ⟨ok, c1, c2⟩
          · have d2 : (!decide (L.b.text = tx)) = true := by simp [c2]
            refine if_is d2 (if_t ?_)
            exact ws_raise (pe (hno fun z => c2 z.2))
        · have d1 : (!decide (L.hdr = heads)) = true := by simp [c1]
          refine if_is d1 (if_t ?_)
          walk_at "w"
          exact pe (hno fun z => c1 z.1)
end
end
section
open PySem PySem.Spec PyProof.Rows L2
open Evl (Ex ex_rd ex_l ex_t)
open CwR
set_option autoImplicit false

/-! pure: a mail taken apart. -/
theorem cutD_nat (ds : List D) (i j : Nat) : cutD ds (some (i : Nat)) (some (j : Nat)) = (ds.drop i).take (j - i) := by
  unfold cutD
  rw [HT.sIx_nat, HT.sIx_nat]
  by_cases hi : i ≤ ds.length
  · rw [Nat.min_eq_left hi]
    by_cases hj : j ≤ ds.length
    · rw [Nat.min_eq_left hj]
    · rw [Nat.min_eq_right (by omega), List.take_of_length_le (by rw [List.length_drop]; omega), List.take_of_length_le (by rw [List.length_drop]; omega)]
  · rw [Nat.min_eq_right (a := i) (by omega), List.drop_of_length_le (Nat.le_refl _), List.drop_of_length_le (by omega), List.take_nil, List.take_nil]
theorem cutD_from (ds : List D) (i : Nat) : cutD ds (some (i : Nat)) none = ds.drop i := by
  unfold cutD
  rw [HT.sIx_nat]
  show (ds.drop (min i ds.length)).take (ds.length - min i ds.length) = _
  by_cases hi : i ≤ ds.length
  · rw [Nat.min_eq_left hi, List.take_of_length_le (by rw [List.length_drop]; omega)]
  · rw [Nat.min_eq_right (by omega), List.drop_of_length_le (Nat.le_refl _), List.drop_of_length_le (by omega), List.take_nil]
theorem cutD_to (ds : List D) (j : Nat) : cutD ds none (some (j : Nat)) = ds.take j := by
  unfold cutD
  rw [HT.sIx_nat]
  show (ds.drop 0).take (min j ds.length - 0) = _
  rw [List.drop_zero, Nat.sub_zero]
  by_cases hj : j ≤ ds.length
  · rw [Nat.min_eq_left hj]
  · rw [Nat.min_eq_right (by omega), List.take_length, List.take_of_length_le (by omega)]
theorem cutS_tl (z : Str) (lo hi : Option Int) : TL.tl (cutS z lo hi) = ((TL.tl z).drop (HT.sIx z.length 0 lo)).take (HT.sIx z.length z.length hi - HT.sIx z.length 0 lo) := rfl
theorem cutS_to (z : Str) (j : Nat) : TL.tl (cutS z none (some (j : Nat))) = (TL.tl z).take j := by
  rw [cutS_tl, HT.sIx_nat]
  show ((TL.tl z).drop 0).take (min j z.length - 0) = _
  rw [List.drop_zero, Nat.sub_zero, TL.len_tl]
  by_cases hj : j ≤ (TL.tl z).length
  · rw [Nat.min_eq_left hj]
  · rw [Nat.min_eq_right (by omega), List.take_length, List.take_of_length_le (by omega)]
theorem cutS_from (z : Str) (i : Nat) : TL.tl (cutS z (some (i : Nat)) none) = (TL.tl z).drop i := by
  rw [cutS_tl, HT.sIx_nat]
  show ((TL.tl z).drop (min i z.length)).take (z.length - min i z.length) = _
  rw [TL.len_tl]
  by_cases hi : i ≤ (TL.tl z).length
  · rw [Nat.min_eq_left hi, List.take_of_length_le (by rw [List.length_drop]; omega)]
  · rw [Nat.min_eq_right (by omega), List.drop_of_length_le (Nat.le_refl _), List.drop_of_length_le (by omega), List.take_nil]
theorem fst1_tl (z : Str) : TL.tl (fst1 z) = (TL.tl z).take 1 := by unfold fst1; exact cutS_to z 1
theorem rest1_tl (z : Str) : TL.tl (rest1 z) = (TL.tl z).drop 1 := by unfold rest1; exact cutS_from z 1
theorem rest1_len (z : Str) : (rest1 z).length = z.length - 1 := by rw [TL.len_tl, rest1_tl, List.length_drop, ← TL.len_tl]
theorem bar_len {z : Str} (h : fst1 z = "|") : 1 ≤ z.length := by
  have := fst1_tl z
  rw [h] at this
  rw [TL.len_tl]
  cases e : TL.tl z with
  | nil => rw [e] at this; cases this
  | cons c r => simp
/-- the lines ahead of the first empty one -/
def preM (ls : List Str) : List Str := ls.takeWhile fun l : Str => !decide (l = "")
/-- the rows of text behind it -/
def rowsM (ls : List Str) : List Str := (ls.drop ((preM ls).length + 1)).takeWhile fun l : Str => decide (fst1 l = "|")
def txM (ls : List Str) : Option Str := if rowsM ls = [] then none else some (Txt.join "\n" ((rowsM ls).map rest1))
/-- header lines, text, and how many lines the mail has -/
def cutM (ls : List Str) : Option (List Str × Option Str × Nat) :=
  if ls[(preM ls).length + 1 + (rowsM ls).length]? = some "." then (match unfL [] (preM ls) with
    | some hs => some (hs, txM ls, (preM ls).length + 1 + (rowsM ls).length + 1)
    | none => none) else none
/-- lines of a modest size, of plain signs -/
structure LnOk (ls : List Str) : Prop where
  sum : (ls.map (·.length)).sum ≤ 45000
  len : ls.length ≤ 45000
  ch : ∀ l ∈ ls, ∀ c ∈ TL.tl l, c < 128
theorem sum_mem {l : Str} : ∀ {ls : List Str}, l ∈ ls → l.length ≤ (ls.map (·.length)).sum
  | x :: r, h => by
    rw [List.map_cons, List.sum_cons]
    rcases List.mem_cons.mp h with e | e
    · rw [e]; omega
    · have := sum_mem e; omega
theorem LnOk.line {ls : List Str} (h : LnOk ls) {l : Str} (hl : l ∈ ls) : l.length ≤ 45000 := Nat.le_trans (sum_mem hl) h.sum
theorem sum_sub {a b : List Str} (h : a.Sublist b) : (a.map (·.length)).sum ≤ (b.map (·.length)).sum := by
  induction h with
  | slnil => exact Nat.le_refl _
  | cons x h ih => rw [List.map_cons, List.sum_cons]; omega
  | cons_cons x h ih => rw [List.map_cons, List.sum_cons, List.map_cons, List.sum_cons]; omega
theorem LnOk.sub {a b : List Str} (h : LnOk b) (s : a.Sublist b) : LnOk a := ⟨Nat.le_trans (sum_sub s) h.sum, Nat.le_trans s.length_le h.len, fun l hl => h.ch l (s.subset hl)⟩
theorem unf_keep {n : Nat} : ∀ (ls acc hs : List Str), unfL acc ls = some hs → (∀ l ∈ ls, ∀ c ∈ TL.tl l, c < 128) → (∀ l ∈ acc, ∀ c ∈ TL.tl l, c < 128) → (∀ l ∈ acc, l.length + (ls.map (·.length)).sum ≤ n) → (ls.map (·.length)).sum ≤ n →
    hs.length ≤ acc.length + ls.length ∧ ∀ l ∈ hs, l.length ≤ n ∧ ∀ c ∈ TL.tl l, c < 128
  | [], acc, hs, h, _, h2, h3, _ => by
    cases h
    exact ⟨Nat.le_refl _, fun l hl => ⟨by have := h3 l hl; simpa using this, h2 l hl⟩⟩
  | l :: r, acc, hs, h, h1, h2, h3, h4 => by
    rw [unfL_cons] at h
    have hl := h1 l List.mem_cons_self
    have hr : ∀ x ∈ r, ∀ c ∈ TL.tl x, c < 128 := fun x hx => h1 x (List.mem_cons_of_mem _ hx)
    simp only [List.map_cons, List.sum_cons] at h3 h4
    by_cases hf : fst1 l = " "
    · by_cases ha : acc = []
      · subst ha; rw [unf_bad hf] at h; cases h
      · rw [unf_yes hf ha] at h
        obtain ⟨x, hx1, hx2⟩ := getD_at (d := Str.empty) ha
        rw [hx2] at h
        have hx := List.mem_of_getElem? hx1
        obtain ⟨q1, q2⟩ := unf_keep (n := n) r _ hs h hr (fun y hy => by
          rcases List.mem_or_eq_of_mem_set hy with z | z
          · exact h2 y z
          · rw [z]; exact app_ch (h2 x hx) hl) (fun y hy => by
          rcases List.mem_or_eq_of_mem_set hy with z | z
          · have := h3 y z; omega
          · rw [z, slen_app]; have := h3 x hx; omega) (by omega)
        rw [List.length_set] at q1
        exact ⟨by rw [List.length_cons]; omega, q2⟩
    · rw [unf_no hf] at h
      obtain ⟨q1, q2⟩ := unf_keep (n := n) r _ hs h hr (fun y hy => by
        rcases List.mem_append.mp hy with z | z
        · exact h2 y z
        · rw [List.mem_singleton.mp z]; exact hl) (fun y hy => by
        rcases List.mem_append.mp hy with z | z
        · have := h3 y z; omega
        · rw [List.mem_singleton.mp z]; omega) (by omega)
      rw [List.length_append] at q1
      refine ⟨by rw [List.length_cons]; simp only [List.length_cons, List.length_nil] at q1; omega, q2⟩
theorem unf_heads {ls hs : List Str} (h : LnOk ls) (e : unfL [] ls = some hs) : hs.length ≤ 50000 ∧ ∀ l ∈ hs, StrS l ∧ l.length < 50000 := by
  obtain ⟨q1, q2⟩ := unf_keep (n := 45000) ls [] hs e h.ch (fun _ h => nomatch h) (fun _ h => nomatch h) h.sum
  have := h.len
  simp only [List.length_nil] at q1
  exact ⟨by omega, fun l hl => ⟨⟨by have := (q2 l hl).1; omega, (q2 l hl).2⟩, by have := (q2 l hl).1; omega⟩⟩
theorem sum_rest : ∀ {ls : List Str}, (∀ l ∈ ls, fst1 l = "|") → ((ls.map rest1).map (·.length)).sum + ls.length = (ls.map (·.length)).sum
  | [], _ => rfl
  | l :: r, h => by
    have := sum_rest (ls := r) fun x hx => h x (List.mem_cons_of_mem _ hx)
    have h1 := bar_len (h l List.mem_cons_self)
    have h2 := rest1_len l
    simp only [List.map_cons, List.sum_cons, List.length_cons] at this ⊢
    omega
theorem join_rows {rows : List Str} (hb : ∀ l ∈ rows, fst1 l = "|") (h : LnOk rows) : ((rows.map rest1).map (·.length)).sum + (rows.map rest1).length * (Str.ofString "\n").length ≤ 45000 ∧ StrS (Txt.join "\n" (rows.map rest1)) := by
  have e1 : (Str.ofString "\n").length = 1 := rfl
  have h1 := sum_rest hb
  have h2 := h.sum
  have h3 : ((rows.map rest1).map (·.length)).sum + (rows.map rest1).length * (Str.ofString "\n").length ≤ 45000 := by
    rw [e1, List.length_map (f := rest1)]; omega
  refine ⟨h3, Nat.le_trans (join_len (Str.ofString "\n") (rows.map rest1)) (by omega), join_ch (lit_ch (by decide +kernel)) fun s hs => ?_⟩
  obtain ⟨l, hl, rfl⟩ := List.mem_map.mp hs
  intro c hc
  rw [rest1_tl] at hc
  exact h.ch l hl c (List.mem_of_mem_drop hc)
theorem rowsM_bar (ls : List Str) : ∀ l ∈ rowsM ls, fst1 l = "|" := fun l hl => by
  have : ∀ (xs : List Str), l ∈ xs.takeWhile (fun l : Str => decide (fst1 l = "|")) → fst1 l = "|" := by
    intro xs
    induction xs with
    | nil => intro h; cases h
    | cons x r ih =>
      intro h
      rw [List.takeWhile_cons] at h
      split at h
      · rename_i hx
        rcases List.mem_cons.mp h with z | z
        · rw [z]; exact of_decide_eq_true hx
        · exact ih z
      · cases h
  exact this _ hl
theorem tw_take {f : Str → Bool} (xs : List Str) : xs.take (xs.takeWhile f).length = xs.takeWhile f := by
  induction xs with
  | nil => rfl
  | cons x r ih =>
    rw [List.takeWhile_cons]
    split
    · rw [List.length_cons, List.take_succ_cons, ih]
    · rfl
theorem tw_sub {f : Str → Bool} (xs : List Str) : (xs.takeWhile f).Sublist xs := by
  rw [← tw_take]; exact List.take_sublist _ _
end
section
open PySem PySem.Spec PyProof.Rows L2
open Evl (Ex ex_rd ex_l ex_t)
open CwR
set_option autoImplicit false
open Bod (NmOk NuOk TtOk TxOk)
theorem lt_sp {c : Nat} : decide ((⟨#[c]⟩ : Str).cps.toList < (Str.ofString " ").cps.toList) = decide (c < 32) := by
  show decide ([c] < [32]) = _
  by_cases h : c < 32
  · rw [decide_eq_true h, decide_eq_true_eq]
    exact List.Lex.rel h
  · rw [decide_eq_false h, decide_eq_false_iff_not]
    intro z
    cases z with
    | rel h' => exact h h'
    | cons h' => cases h'
theorem gt_ti {c : Nat} : decide ((Str.ofString "~").cps.toList < (⟨#[c]⟩ : Str).cps.toList) = decide (126 < c) := by
  show decide ([126] < [c]) = _
  by_cases h : 126 < c
  · rw [decide_eq_true h, decide_eq_true_eq]
    exact List.Lex.rel h
  · rw [decide_eq_false h, decide_eq_false_iff_not]
    intro z
    cases z with
    | rel h' => exact h h'
    | cons h' => cases h'
theorem one_eq {c d : Nat} : decide ((⟨#[c]⟩ : Str) = ⟨#[d]⟩) = decide (c = d) := by
  by_cases h : c = d
  · simp [h]
  · have : ¬ (⟨#[c]⟩ : Str) = ⟨#[d]⟩ := fun z => h (by
      have := congrArg TL.tl z
      exact List.head_eq_of_cons_eq this)
    rw [decide_eq_false h, decide_eq_false this]
theorem filter_none {α : Type} (l : List α) (f : α → Bool) : decide ((((l.filter f).length : Nat) : Int) = 0) = l.all fun x => !f x := by
  rw [Bool.eq_iff_iff, decide_eq_true_eq, List.all_eq_true]
  constructor
  · intro h x hx
    have : (l.filter f) = [] := List.length_eq_zero_iff.mp (by omega)
    have := List.filter_eq_nil_iff.mp this x hx
    simpa using this
  · intro h
    have : l.filter f = [] := List.filter_eq_nil_iff.mpr fun x hx => by have := h x hx; simpa using this
    rw [this]; rfl
def chF (f : Nat → Bool) : D → Bool
  | .str ⟨⟨[c]⟩⟩ => f c
  | _ => false
theorem chD_filter (x : Str) (f : Nat → Bool) : ((chD x).filter (chF f)).length = ((TL.tl x).filter f).length := by
  unfold chD
  rw [List.filter_map, List.length_map]
  rfl
section
variable {Pr : Program} {w : World} {K : PySem.W.Frag} {mg : Str → Option Value} {base : Heap} {C CB : Addr}
theorem ok__law_is_name (T : Txt w K mg C CB) : CallOk Pr w K mg base CX0 1 "_law_is_name" ["_law_thing"] (spP K C (fD isNameD)) := by
  refine T.d__law_is_name.ok sc__law_is_name (fun vs H Q E h => len_P Fn1.len h) (fun f cdv A outer s H vs Q E hr h => ⟨_, (pss_cons (ps_if (PW.pt (pw_or (pt_not (pt_val (pe_callB call_isi (by rfl) T.n_isinstance bb_isinstance (pa_cons (pv 0) (pa_cons (pe_bltn (v := .ty "str") (by rfl) T.n_str bb_str rfl) pa_nil))))) (pw_or (pt_cmpR op_eq (pe_callB cLen (by rfl) T.n_len bb_len (pa_cons (pv 0) pa_nil)) pe_int (nomark _)) (pw_or1 (pt_cmpR op_gt (pe_callB cLen (by rfl) T.n_len bb_len (pa_cons (pv 0) pa_nil)) pe_int (nomark _)))))) (pss_one (ps_ret pe_bl)) pss_nil)
      (pss_cons (ps_for PassesOwn.never rfl (pi_range1 rfl T.n_range (pa_cons (pe_callB cLen (by rfl) T.n_len bb_len (pa_cons (pv 0) pa_nil)) pa_nil)) (pg_name (i := 1) sc__law_is_name.nd rfl (.inl rfl))
      (pss_one (ps_if (PW.pt (pw_and (pt_cmpR oNotInS (pe_ix ix_str (pv 0) (pv 1) (fun _ _ => rfl)) pe_str (by rfl)) (pw_and1 (PW.pt (pw_or (pt_cmpR op_eq (pv 1) pe_int (nomark _)) (pw_or1 (pt_cmpR oNotInS (pe_ix ix_str (pv 0) (pv 1) (fun _ _ => rfl)) pe_str (by rfl)))))))) (pss_one (ps_ret pe_bl)) pss_nil)))
      (pss_one (ps_ret pe_bl)))), body_P h fun ds P hf => ?_⟩)
  obtain ⟨d, rfl, hd, p⟩ := hf
  refine ⟨Nat.le_of_ble_eq_true rfl, ?_⟩
  show WS _ _ [.dat d, .un] _ _ _ _
  try dsimp only [cxOf]
  cases d with
  | str x =>
    have hx : x.length ≤ 50000 := hd.1
    have hx' : x.length ≤ 100000 := by omega
    have el := TL.len_tl x
    walk_at "w"
    refine if_2 (fun h1 => ?_) (fun h1 => ?_)
    · have h1 := of_decide_eq_true h1
      walk_at "w"
      exact Pto p (nameL_no fun l => by omega)
    · simp only [decide_eq_false_iff_not] at h1
      walk_at "w"
      refine if_2 (fun h2 => ?_) (fun h2 => ?_)
      · have h2 := of_decide_eq_true h2
        walk_at "w"
        exact Pto p (nameL_no fun l => by omega)
      · simp only [decide_eq_false_iff_not] at h2
        walk_at "w"
        refine ForInv.mk (fun i τ' => ∃ s, τ' = [.dat (.str x), s] ∧ (∀ c ∈ (TL.tl x).take i, nmCh c = true) ∧ (0 < i → headL (TL.tl x) = true)) ⟨.un, rfl, by simp, fun h => by omega⟩ (fun i d τ' hd hI => ?_) (fun τ' hI => ?_)
        · obtain ⟨s, rfl, hI, hH⟩ := hI
          obtain ⟨hi, rfl⟩ := rgD_get hd
          have hi : i < (TL.tl x).length := by omega
          have hc := List.getElem?_eq_getElem hi
          obtain ⟨c, ec⟩ : ∃ c, c = (TL.tl x)[i] := ⟨_, rfl⟩
          rw [← ec] at hc
          have ha : atI (TL.tl x) (0 + ((i : Nat) : Int)) = some c := by
            have e : (0 : Int) + ((i : Nat) : Int) = ((i : Nat) : Int) := by omega
            rw [e]; exact atI_nat hc
          have hn : nmCh c = true → ∀ c' ∈ (TL.tl x).take (i + 1), nmCh c' = true := fun h c' hm => by
            rw [List.take_add_one, hc] at hm
            rcases List.mem_append.mp hm with q | q
            · exact hI c' q
            · simp at q; rw [q]; exact h
          have hbad : nmCh c = false → nameL (TL.tl x) = false := fun h => nameL_bad (List.mem_iff_getElem?.mpr ⟨i, hc⟩) h
          walk_at "w"
          refine od_ixS hx' ha ?_
          walk_at "w"
          refine if_2 (fun h3 => ?_) (fun h3 => ?_)
          · walk_at "w"
            have h3 : ¬ c ∈ lettersL := by simpa using h3
            refine if_2 (fun h4 => ?_) (fun h4 => ?_)
            · have h4 : i = 0 := by have := of_decide_eq_true h4; omega
              subst h4
              walk_at "w"
              refine Pto p ?_
              cases e : TL.tl x with
              | nil => rw [e] at hi; simp at hi
              | cons a r =>
                have : a = c := by rw [e] at hc; simpa using hc
                subst this
                show nameL (TL.tl x) = false
                rw [e]
                show (_ && (_ && (_ && decide (a ∈ lettersL)))) = false
                rw [decide_eq_false h3]; simp
            · walk_at "w"
              refine od_ixS hx' ha ?_
              walk_at "w"
              refine if_2 (fun h5 => ?_) (fun h5 => ?_)
              · walk_at "w"
                have h5 : ¬ c ∈ digitsL := by simpa using h5
                exact Pto p (hbad (by simp [nmCh, h3, h5]))
              · walk_at "w"
                have h5 : c ∈ digitsL := by simpa using h5
                refine ⟨hn (by simp [nmCh, h5]), fun _ => hH ?_⟩
                simp only [decide_eq_false_iff_not] at h4
                omega
          · walk_at "w"
            have h3 : c ∈ lettersL := by simpa using h3
            refine ⟨hn (by simp [nmCh, h3]), fun _ => ?_⟩
            by_cases hz : i = 0
            · subst hz
              cases e : TL.tl x with
              | nil => rw [e] at hi; simp at hi
              | cons a r =>
                have : a = c := by rw [e] at hc; simpa using hc
                subst this
                show decide (a ∈ lettersL) = true
                simp [h3]
            · exact hH (by omega)
        · obtain ⟨s, rfl, hI, hH⟩ := hI
          rw [rgD_len] at hI hH
          have e1 : ((x.length : Nat) : Int).toNat = (TL.tl x).length := by omega
          rw [e1, List.take_length] at hI
          walk_at "w"
          refine Pto p (b := true) ?_
          show nameL (TL.tl x) = true
          unfold nameL
          rw [List.all_eq_true.mpr hI, hH (by omega)]
          simp only [Bool.and_true, Bool.and_eq_true, decide_eq_true_eq]
          omega
  | dct _ _ => exact hd.elim
  | ltr _ _ _ _ _ => exact hd.elim
  | scr _ => exact hd.elim
  | _ => walk_at "w"; exact p
theorem ok__law_is_number (T : Txt w K mg C CB) : CallOk Pr w K mg base CX0 1 "_law_is_number" ["_law_thing"] (spP K C (fD isNumD)) := by
  refine T.d__law_is_number.ok sc__law_is_number (fun vs H Q E h => len_P Fn1.len h) (fun f cdv A outer s H vs Q E hr h => ⟨_, (pss_one (ps_ret (pe_and (pe_callB call_isi (by rfl) T.n_isinstance bb_isinstance (pa_cons (pv 0) (pa_cons (pe_bltn (v := .ty "int") (by rfl) T.n_int bb_int rfl) pa_nil))) (pe_and (pe_not (pe_callB call_isi (by rfl) T.n_isinstance bb_isinstance (pa_cons (pv 0) (pa_cons (pe_bltn (v := .ty "bool") (by rfl) T.n_bool bb_bool rfl) pa_nil)))) (pe_and (pe_cmpR op_ge (pv 0) pe_int (nomark _)) (pe_one (pe_cmpR op_le (pv 0) (pe_op op_pow pe_int pe_int) (nomark _)))))))), body_P h fun ds P hf => ?_⟩)
  obtain ⟨d, rfl, hd, p⟩ := hf
  refine ⟨Nat.le_of_ble_eq_true rfl, ?_⟩
  show WS _ _ [.dat d] _ _ _ _
  try dsimp only [cxOf]
  cases d with
  | int i =>
    walk_at "w"
    refine if_2 (fun h1 => ?_) (fun h1 => ?_)
    · walk_at "w"
      refine Pto p ?_
      show (decide (1 ≤ i) && _) = _
      rw [show decide (1 ≤ i) = true from h1]; rfl
    · refine Pto p ?_
      show (decide (1 ≤ i) && _) = _
      rw [show decide (1 ≤ i) = false from h1]; rfl
  | dct _ _ => exact hd.elim
  | ltr _ _ _ _ _ => exact hd.elim
  | scr _ => exact hd.elim
  | _ => walk_at "w"; exact p
theorem ok__law_is_line (T : Txt w K mg C CB) : CallOk Pr w K mg base CX0 1 "_law_is_line" ["_law_thing"] (spP K C (fD isTitleD)) := by
  refine T.d__law_is_line.ok sc__law_is_line (fun vs H Q E h => len_P Fn1.len h) (fun f cdv A outer s H vs Q E hr h => ⟨_, (pss_cons (ps_if (PW.pt (pw_or (pt_not (pt_val (pe_callB call_isi (by rfl) T.n_isinstance bb_isinstance (pa_cons (pv 0) (pa_cons (pe_bltn (v := .ty "str") (by rfl) T.n_str bb_str rfl) pa_nil))))) (pw_or1 (pt_cmpR op_gt (pe_callB cLen (by rfl) T.n_len bb_len (pa_cons (pv 0) pa_nil)) pe_int (nomark _))))) (pss_one (ps_ret pe_bl)) pss_nil)
      (pss_one (ps_ret (pe_cmpR op_eq (pe_callB cLen (by rfl) T.n_len bb_len (pa_cons (pe_lc (own := [("_law_char", 1)]) (g := gName 1) rfl sc__law_is_line.nd (pi_str (pv 0)) (blkOk_by (own := [("_law_char", 1)]) (N := N__law_is_line) (sc := defScope s__law_is_line) (by decide +kernel)) (fun _ _ _ _ _ => pg_name (i := 1) sc__law_is_line.nd rfl (Or.inl rfl)) (fun _ _ _ _ _ => pts_one (PW.pt (pw_or (pt_cmpR oLtS (pv 1) pe_str (nomark _)) (pw_or1 (pt_cmpR oGtS (pv 1) pe_str (nomark _)))))) (fun _ _ _ _ _ => (pv 1))) pa_nil)) pe_int (nomark _))))), body_P h fun ds P hf => ?_⟩)
  obtain ⟨d, rfl, hd, p⟩ := hf
  refine ⟨Nat.le_of_ble_eq_true rfl, ?_⟩
  show WS _ _ [.dat d, .un] _ _ _ _
  try dsimp only [cxOf]
  cases d with
  | str x =>
    have hx : x.length ≤ 50000 := hd.1
    walk_at "w"
    refine if_2 (fun h1 => ?_) (fun h1 => ?_)
    · have h1 := of_decide_eq_true h1
      walk_at "w"
      have : ¬ x.length ≤ 60 := by omega
      exact Pto p (by show (decide (x.length ≤ 60) && _) = false; simp [this])
    · simp only [decide_eq_false_iff_not] at h1
      walk_at "w"
      refine LcInv.filter (chF fun c => decide (c < 32) || decide (126 < c)) ?la ?lb (fun i d hd => ?_) ?_
      case la => exact Nat.le_of_ble_eq_true rfl
      case lb => rw [chD_len]; omega
      · obtain ⟨c, hc, rfl⟩ := chD_get hd
        walk_at "w"
        rw [lt_sp]
        show (decide (c < 32) = true → true = (decide (c < 32) || decide (126 < c))) ∧ _
        refine if_2 (fun h => by rw [h]; rfl) (fun h => ?_)
        walk_at "w"
        show decide ((Str.ofString "~").cps.toList < _) = (decide (c < 32) || decide (126 < c))
        rw [gt_ti, h]; rfl
      · walk_at "w"
        rw [chD_filter, filter_none]
        have : x.length ≤ 60 := by omega
        refine Pto p ?_
        show (decide (x.length ≤ 60) && plainL (TL.tl x)) = _
        rw [decide_eq_true this, Bool.true_and]
        unfold plainL
        congr 1
        funext c
        unfold plCh
        rw [Bool.eq_iff_iff]
        simp
  | dct _ _ => exact hd.elim
  | ltr _ _ _ _ _ => exact hd.elim
  | scr _ => exact hd.elim
  | _ => walk_at "w"; exact p
end
end
section
open PySem PySem.Spec PyProof.Rows L2
open Evl (Ex ex_rd ex_l ex_t)
open CwR
set_option autoImplicit false
open Bod (NmOk NuOk TtOk TxOk)
theorem filter_some {α : Type} (l : List α) (f : α → Bool) : decide ((0 : Int) < (((l.filter f).length : Nat) : Int)) = !l.all fun x => !f x := by
  rw [← filter_none]
  by_cases h : (l.filter f).length = 0
  · rw [h]; rfl
  · have e1 : decide ((0 : Int) < (((l.filter f).length : Nat) : Int)) = true := decide_eq_true (by omega)
    have e2 : decide ((((l.filter f).length : Nat) : Int) = 0) = false := decide_eq_false (by omega)
    rw [e1, e2]; rfl
theorem all_nn {α : Type} (l : List α) (f : α → Bool) : (l.all fun x => !!f x) = l.all f := by
  congr 1; funext x; rw [Bool.not_not]
theorem lt_tl {a b : Str} : decide (a.cps.toList < b.cps.toList) = ltS a b := rfl
section
variable {Pr : Program} {w : World} {K : PySem.W.Frag} {mg : Str → Option Value} {base : Heap} {C CB : Addr}
theorem ok__law_is_text (T : Txt w K mg C CB) : CallOk Pr w K mg base CX0 1 "_law_is_text" ["_law_thing"] (spP K C (fD isTextD)) := by
  refine T.d__law_is_text.ok sc__law_is_text (fun vs H Q E h => len_P Fn1.len h) (fun f cdv A outer s H vs Q E hr h => ⟨_, (pss_cons (ps_if (PW.pt (pw_or (pt_not (pt_val (pe_callB call_isi (by rfl) T.n_isinstance bb_isinstance (pa_cons (pv 0) (pa_cons (pe_bltn (v := .ty "str") (by rfl) T.n_str bb_str rfl) pa_nil))))) (pw_or (pt_cmpR op_eq (pe_callB cLen (by rfl) T.n_len bb_len (pa_cons (pv 0) pa_nil)) pe_int (nomark _)) (pw_or1 (pt_cmpR op_gt (pe_callB cLen (by rfl) T.n_len bb_len (pa_cons (pv 0) pa_nil)) pe_int (nomark _)))))) (pss_one (ps_ret pe_bl)) pss_nil)
      (pss_one (ps_ret (pe_cmpR op_eq (pe_callB cLen (by rfl) T.n_len bb_len (pa_cons (pe_lc (own := [("_law_char", 1)]) (g := gName 1) rfl sc__law_is_text.nd (pi_str (pv 0)) (blkOk_by (own := [("_law_char", 1)]) (N := N__law_is_text) (sc := defScope s__law_is_text) (by decide +kernel)) (fun _ _ _ _ _ => pg_name (i := 1) sc__law_is_text.nd rfl (Or.inl rfl)) (fun _ _ _ _ _ => pts_one (PW.pt (pw_and (pt_cmpR op_ne (pv 1) pe_str (nomark _)) (pw_and1 (PW.pt (pw_or (pt_cmpR oLtS (pv 1) pe_str (nomark _)) (pw_or1 (pt_cmpR oGtS (pv 1) pe_str (nomark _))))))))) (fun _ _ _ _ _ => (pv 1))) pa_nil)) pe_int (nomark _))))), body_P h fun ds P hf => ?_⟩)
  obtain ⟨d, rfl, hd, p⟩ := hf
  refine ⟨Nat.le_of_ble_eq_true rfl, ?_⟩
  show WS _ _ [.dat d, .un] _ _ _ _
  try dsimp only [cxOf]
  cases d with
  | str x =>
    have hx : x.length ≤ 50000 := hd.1
    have hx' : x.length ≤ 100000 := by omega
    walk_at "w"
    refine if_2 (fun h1 => ?_) (fun h1 => ?_)
    · have h1 := of_decide_eq_true h1
      walk_at "w"
      have : ¬ 1 ≤ x.length := by omega
      exact Pto p (by show (decide (1 ≤ x.length) && _) = false; simp [this])
    · simp only [decide_eq_false_iff_not] at h1
      walk_at "w"
      refine if_2 (fun h2 => ?_) (fun h2 => ?_)
      · have h2 := of_decide_eq_true h2
        walk_at "w"
        have : ¬ x.length ≤ 400 := by omega
        exact Pto p (by show (_ && (decide (x.length ≤ 400) && _)) = false; simp [this])
      · simp only [decide_eq_false_iff_not] at h2
        walk_at "w"
        refine LcInv.filter (chF fun c => !decide (c = 10) && (decide (c < 32) || decide (126 < c))) ?la ?lb (fun i d hd => ?_) ?_
        case la => exact Nat.le_of_ble_eq_true rfl
        case lb => rw [chD_len]; omega
        · obtain ⟨c, hc, rfl⟩ := chD_get hd
          have e0 : decide ((⟨#[c]⟩ : Str) = Str.ofString "\n") = decide (c = 10) := one_eq
          walk_at "w"
          rw [e0]
          show ((!decide (c = 10)) = true → _) ∧ ((!decide (c = 10)) = false → false = (!decide (c = 10) && (decide (c < 32) || decide (126 < c))))
          refine if_2 (fun h0 => ?_) (fun h0 => by rw [h0]; rfl)
          walk_at "w"
          rw [lt_sp]
          show (decide (c < 32) = true → true = (!decide (c = 10) && (decide (c < 32) || decide (126 < c)))) ∧ _
          refine if_2 (fun h => by rw [h0, h]; rfl) (fun h => ?_)
          walk_at "w"
          show decide ((Str.ofString "~").cps.toList < _) = (!decide (c = 10) && (decide (c < 32) || decide (126 < c)))
          rw [gt_ti, h0, h]; rfl
        · walk_at "w"
          rw [chD_filter, filter_none]
          have q1 : 1 ≤ x.length := by omega
          have q2 : x.length ≤ 400 := by omega
          refine Pto p ?_
          show (decide (1 ≤ x.length) && (decide (x.length ≤ 400) && plainL ((TL.tl x).filter fun c => !decide (c = 10)))) = _
          rw [decide_eq_true q1, decide_eq_true q2, Bool.true_and, Bool.true_and]
          unfold plainL
          rw [List.all_filter]
          congr 1
          funext c
          unfold plCh
          rw [Bool.eq_iff_iff]
          simp
  | dct _ _ => exact hd.elim
  | ltr _ _ _ _ _ => exact hd.elim
  | scr _ => exact hd.elim
  | _ => walk_at "w"; exact p
theorem ok__law_is_ref (T : Txt w K mg C CB) : CallOk Pr w K mg base CX0 2 "_law_is_ref" ["_law_thing"] (spP K C (fD isRefD)) := by
  have c__law_is_name := @ok__law_is_name Pr w K mg base C CB T
  have c__law_is_number := @ok__law_is_number Pr w K mg base C CB T
  refine T.d__law_is_ref.ok sc__law_is_ref (fun vs H Q E h => len_P Fn1.len h) (fun f cdv A outer s H vs Q E hr h => ⟨_, (pss_one (ps_ret (pe_and (pe_callB call_isi (by rfl) T.n_isinstance bb_isinstance (pa_cons (pv 0) (pa_cons (pe_bltn (v := .ty "tuple") (by rfl) T.n_tuple bb_tuple rfl) pa_nil))) (pe_and (pe_cmpR op_eq (pe_callB cLen (by rfl) T.n_len bb_len (pa_cons (pv 0) pa_nil)) pe_int (nomark _)) (pe_and (pe_cal c__law_is_name (hr.mono (by decide)) pass0 (pa_cons (pe_ix ix_tup (pv 0) pe_int (fun _ _ => rfl)) pa_nil)) (pe_one (pe_cal c__law_is_number (hr.mono (by decide)) pass0 (pa_cons (pe_ix ix_tup (pv 0) pe_int (fun _ _ => rfl)) pa_nil)))))))), body_P h fun ds P hf => ?_⟩)
  obtain ⟨d, rfl, hd, p⟩ := hf
  refine ⟨Nat.le_of_ble_eq_true rfl, ?_⟩
  show WS _ _ [.dat d] _ _ _ _
  try dsimp only [cxOf]
  cases d with
  | tup ds =>
    match ds, hd, p with
    | [], _, p => walk_at "w"; exact p
    | [_], _, p => walk_at "w"; exact p
    | [a, n], hd, p =>
      have ha : Sm a := hd.2.1
      have hn : Sm n := hd.2.2.1
      walk_at "w"
      refine if_2 (fun h1 => ?_) (fun h1 => ?_)
      · walk_at "w"
        refine Pto p ?_
        show (isNameD a && isNumD n) = _
        rw [h1]; rfl
      · refine Pto p ?_
        show (isNameD a && isNumD n) = _
        rw [h1]; rfl
    | a :: b :: c :: r, _, p =>
      walk_at "w"
      exact p
  | dct _ _ => exact hd.elim
  | ltr _ _ _ _ _ => exact hd.elim
  | scr _ => exact hd.elim
  | _ => walk_at "w"; exact p
theorem ok__law_is_names (T : Txt w K mg C CB) : CallOk Pr w K mg base CX0 2 "_law_is_names" ["_law_thing"] (spP K C (fD isMembersD)) := by
  have c__law_is_name := @ok__law_is_name Pr w K mg base C CB T
  refine T.d__law_is_names.ok sc__law_is_names (fun vs H Q E h => len_P Fn1.len h) (fun f cdv A outer s H vs Q E hr h => ⟨_, (pss_cons (ps_if (PW.pt (pw_or (pt_not (pt_val (pe_callB call_isi (by rfl) T.n_isinstance bb_isinstance (pa_cons (pv 0) (pa_cons (pe_bltn (v := .ty "tuple") (by rfl) T.n_tuple bb_tuple rfl) pa_nil))))) (pw_or1 (pt_cmpR op_gt (pe_callB cLen (by rfl) T.n_len bb_len (pa_cons (pv 0) pa_nil)) pe_int (nomark _))))) (pss_one (ps_ret pe_bl)) pss_nil)
      (pss_cons (ps_if (pt_cmpR op_gt (pe_callB cLen (by rfl) T.n_len bb_len (pa_cons (pe_lc (own := [("_law_name_here", 2)]) (g := gName 2) rfl sc__law_is_names.nd (pi_tup (pv 0)) (blkOk_by (own := [("_law_name_here", 2)]) (N := N__law_is_names) (sc := defScope s__law_is_names) (by decide +kernel)) (fun _ _ _ _ _ => pg_name (i := 2) sc__law_is_names.nd rfl (Or.inl rfl)) (fun _ _ _ _ _ => pts_one (pt_not (pt_val (pe_cal c__law_is_name (hr.mono (by decide)) pass0 (pa_cons (pv 2) pa_nil))))) (fun _ _ _ _ _ => (pv 2))) pa_nil)) pe_int (nomark _)) (pss_one (ps_ret pe_bl)) pss_nil)
      (pss_cons (ps_for PassesOwn.never rfl (pi_range2 rfl T.n_range (pa_cons pe_int (pa_cons (pe_callB cLen (by rfl) T.n_len bb_len (pa_cons (pv 0) pa_nil)) pa_nil))) (pg_name (i := 1) sc__law_is_names.nd rfl (.inl rfl))
      (pss_one (ps_if (pt_not (pt_cmpR oLtS (pe_ix ix_tup (pv 0) (pe_op op_sub (pv 1) pe_int) (fun _ _ => rfl)) (pe_ix ix_tup (pv 0) (pv 1) (fun _ _ => rfl)) (nomark _))) (pss_one (ps_ret pe_bl)) pss_nil)))
      (pss_one (ps_ret pe_bl))))), body_P h fun ds P hf => ?_⟩)
  obtain ⟨d, rfl, hd, p⟩ := hf
  refine ⟨Nat.le_of_ble_eq_true rfl, ?_⟩
  show WS _ _ [.dat d, .un, .un] _ _ _ _
  try dsimp only [cxOf]
  cases d with
  | tup ds =>
    have hs : SmL ds := hd.2
    walk_at "w"
    refine if_2 (fun h1 => ?_) (fun h1 => ?_)
    · walk_at "w"
      have h1 := of_decide_eq_true h1
      have : ¬ ds.length ≤ 15 := by omega
      exact Pto p (by simp [isMembersD, this])
    · simp only [decide_eq_false_iff_not] at h1
      have hl : ds.length ≤ 15 := by omega
      have eM : isMembersD (.tup ds) = (ds.all isNameD && ascL (ds.map strD)) := by simp [isMembersD, hl]
      walk_at "w"
      refine LcInv.filter (fun d => !isNameD d) ?la ?lb (fun i d hd => ?_) ?_
      case la => exact Nat.le_of_ble_eq_true rfl
      case lb => omega
      · have hsd : Sm d := hs.get hd
        walk_at "w"
        rfl
      · walk_at "w"
        rw [filter_some, all_nn]
        cases ha : ds.all isNameD with
        | false => walk_at "w"; exact Pto p (by rw [eM, ha]; rfl)
        | true =>
        have hall := List.all_eq_true.mp ha
        walk_at "w"
        refine ForInv.mk (fun i τ' => ∃ s t, τ' = [.dat (.tup ds), s, t] ∧ ascL ((ds.take (i + 1)).map strD) = true) ⟨_, _, rfl, by cases ds <;> rfl⟩ (fun i d τ' hd hI => ?_) (fun τ' hI => ?_)
        · obtain ⟨s, t, rfl, hA⟩ := hI
          obtain ⟨hi, rfl⟩ := rgD_get hd
          have hj1 : i + 1 < ds.length := by omega
          obtain ⟨e, he⟩ : ∃ e, ds[i]? = some e := ⟨_, List.getElem?_eq_getElem (by omega)⟩
          obtain ⟨g, hg⟩ : ∃ g, ds[i + 1]? = some g := ⟨_, List.getElem?_eq_getElem hj1⟩
          obtain ⟨x, rfl⟩ := isNameD_str (hall e (List.mem_of_getElem? he))
          obtain ⟨y, rfl⟩ := isNameD_str (hall g (List.mem_of_getElem? hg))
          have a1 : atI ds (1 + ((i : Nat) : Int) - 1) = some (.str x) := by
            rw [show (1 : Int) + ((i : Nat) : Int) - 1 = ((i : Nat) : Int) by omega]; exact atI_nat he
          have a2 : atI ds (1 + ((i : Nat) : Int)) = some (.str y) := by
            rw [show (1 : Int) + ((i : Nat) : Int) = ((i + 1 : Nat) : Int) by omega]; exact atI_nat hg
          have t1 : ds.take (i + 1) = ds.take i ++ [.str x] := by rw [List.take_add_one, he]; rfl
          have t2 : ds.take (i + 1 + 1) = ds.take i ++ [.str x] ++ [.str y] := by rw [List.take_add_one, hg, t1]; rfl
          walk_at "w"
          refine od_ixT a1 ?_
          walk_at "w"
          refine od_ixT a2 ?_
          walk_at "w"
          refine if_2 (fun h3 => ?_) (fun h3 => ?_)
          · walk_at "w"
            refine Pto p ?_
            have h3 : ltS x y = false := by simpa [ltS] using h3
            have : ascL (ds.map strD) = false := by
              refine ascL_bad (n := i + 1 + 1) ?_
              rw [← List.map_take, t2]
              simp only [List.map_append, List.map_cons, List.map_nil, List.append_assoc]
              exact ascL_snoc_bad h3
            rw [eM, this]; simp
          · have h3 : ltS x y = true := by simpa [ltS] using h3
            have q : ascL ((ds.take (i + 1 + 1)).map strD) = true := by
              rw [t1] at hA
              rw [t2]
              simp only [List.map_append, List.map_cons, List.map_nil, List.append_assoc] at hA ⊢
              exact ascL_snoc hA h3
            walk_at "w"
            exact q
        · obtain ⟨s, t, rfl, hA⟩ := hI
          rw [rgD_len] at hA
          walk_at "w"
          refine Pto p (b := true) ?_
          rw [eM, ha]
          have : ds.take (((ds.length : Nat) : Int) - 1).toNat.succ = ds := List.take_of_length_le (by omega)
          rw [this] at hA
          rw [hA]; rfl
  | dct _ _ => exact hd.elim
  | ltr _ _ _ _ _ => exact hd.elim
  | scr _ => exact hd.elim
  | _ => walk_at "w"; exact p
theorem ok__law_is_seen (T : Txt w K mg C CB) : CallOk Pr w K mg base CX0 3 "_law_is_seen" ["_law_thing"] (spP K C (fD isSeenD)) := by
  have c__law_is_ref := @ok__law_is_ref Pr w K mg base C CB T
  refine T.d__law_is_seen.ok sc__law_is_seen (fun vs H Q E h => len_P Fn1.len h) (fun f cdv A outer s H vs Q E hr h => ⟨_, (pss_cons (ps_if (PW.pt (pw_or (pt_not (pt_val (pe_callB call_isi (by rfl) T.n_isinstance bb_isinstance (pa_cons (pv 0) (pa_cons (pe_bltn (v := .ty "tuple") (by rfl) T.n_tuple bb_tuple rfl) pa_nil))))) (pw_or1 (pt_cmpR op_gt (pe_callB cLen (by rfl) T.n_len bb_len (pa_cons (pe_lc (own := [("_law_pair_here", 2)]) (g := gName 2) rfl sc__law_is_seen.nd (pi_tup (pv 0)) (blkOk_by (own := [("_law_pair_here", 2)]) (N := N__law_is_seen) (sc := defScope s__law_is_seen) (by decide +kernel)) (fun _ _ _ _ _ => pg_name (i := 2) sc__law_is_seen.nd rfl (Or.inl rfl)) (fun _ _ _ _ _ => pts_one (pt_not (pt_val (pe_cal c__law_is_ref (hr.mono (by decide)) pass0 (pa_cons (pv 2) pa_nil))))) (fun _ _ _ _ _ => (pv 2))) pa_nil)) pe_int (nomark _))))) (pss_one (ps_ret pe_bl)) pss_nil)
      (pss_cons (ps_for PassesOwn.never rfl (pi_range2 rfl T.n_range (pa_cons pe_int (pa_cons (pe_callB cLen (by rfl) T.n_len bb_len (pa_cons (pv 0) pa_nil)) pa_nil))) (pg_name (i := 1) sc__law_is_seen.nd rfl (.inl rfl))
      (pss_one (ps_if (pt_not (pt_cmpR oLtS (pe_ix ix_tup (pe_ix ix_tup (pv 0) (pe_op op_sub (pv 1) pe_int) (fun _ _ => rfl)) pe_int (fun _ _ => rfl)) (pe_ix ix_tup (pe_ix ix_tup (pv 0) (pv 1) (fun _ _ => rfl)) pe_int (fun _ _ => rfl)) (nomark _))) (pss_one (ps_ret pe_bl)) pss_nil)))
      (pss_one (ps_ret pe_bl)))), body_P h fun ds P hf => ?_⟩)
  obtain ⟨d, rfl, hd, p⟩ := hf
  refine ⟨Nat.le_of_ble_eq_true rfl, ?_⟩
  show WS _ _ [.dat d, .un, .un] _ _ _ _
  try dsimp only [cxOf]
  cases d with
  | tup ds =>
    have hs : SmL ds := hd.2
    have hl : ds.length ≤ 50000 := hd.1
    have eM : isSeenD (.tup ds) = (ds.all isRefD && ascL (ds.map fun d => strD (fstD d))) := rfl
    walk_at "w"
    refine LcInv.filter (fun d => !isRefD d) ?la ?lb (fun i d hd => ?_) ?_
    case la => exact Nat.le_of_ble_eq_true rfl
    case lb => omega
    · have hsd : Sm d := hs.get hd
      walk_at "w"
      rfl
    · walk_at "w"
      rw [filter_some, all_nn]
      cases ha : ds.all isRefD with
      | false => walk_at "w"; exact Pto p (by rw [eM, ha]; rfl)
      | true =>
      have hall := List.all_eq_true.mp ha
      walk_at "w"
      refine ForInv.mk (fun i τ' => ∃ s t, τ' = [.dat (.tup ds), s, t] ∧ ascL ((ds.take (i + 1)).map fun d => strD (fstD d)) = true) ⟨_, _, rfl, by cases ds <;> rfl⟩ (fun i d τ' hd hI => ?_) (fun τ' hI => ?_)
      · obtain ⟨s, t, rfl, hA⟩ := hI
        obtain ⟨hi, rfl⟩ := rgD_get hd
        have hj1 : i + 1 < ds.length := by omega
        obtain ⟨e, he⟩ : ∃ e, ds[i]? = some e := ⟨_, List.getElem?_eq_getElem (by omega)⟩
        obtain ⟨g, hg⟩ : ∃ g, ds[i + 1]? = some g := ⟨_, List.getElem?_eq_getElem hj1⟩
        obtain ⟨x, m, rfl, _⟩ := isRefD_eq (hall e (List.mem_of_getElem? he))
        obtain ⟨y, n, rfl, _⟩ := isRefD_eq (hall g (List.mem_of_getElem? hg))
        have a1 : atI ds (1 + ((i : Nat) : Int) - 1) = some (.tup [.str x, .int m]) := by
          rw [show (1 : Int) + ((i : Nat) : Int) - 1 = ((i : Nat) : Int) by omega]; exact atI_nat he
        have a2 : atI ds (1 + ((i : Nat) : Int)) = some (.tup [.str y, .int n]) := by
          rw [show (1 : Int) + ((i : Nat) : Int) = ((i + 1 : Nat) : Int) by omega]; exact atI_nat hg
        have t1 : ds.take (i + 1) = ds.take i ++ [.tup [.str x, .int m]] := by rw [List.take_add_one, he]; rfl
        have t2 : ds.take (i + 1 + 1) = ds.take i ++ [.tup [.str x, .int m]] ++ [.tup [.str y, .int n]] := by rw [List.take_add_one, hg, t1]; rfl
        walk_at "w"
        refine od_ixT a1 ?_
        walk_at "w"
        refine od_ixT a2 ?_
        walk_at "w"
        refine if_2 (fun h3 => ?_) (fun h3 => ?_)
        · walk_at "w"
          refine Pto p ?_
          have h3 : ltS x y = false := by simpa [ltS] using h3
          have : ascL (ds.map fun d => strD (fstD d)) = false := by
            refine ascL_bad (n := i + 1 + 1) ?_
            rw [← List.map_take, t2]
            simp only [List.map_append, List.map_cons, List.map_nil, List.append_assoc]
            exact ascL_snoc_bad h3
          rw [eM, this]; simp
        · have h3 : ltS x y = true := by simpa [ltS] using h3
          have q : ascL ((ds.take (i + 1 + 1)).map fun d => strD (fstD d)) = true := by
            rw [t1] at hA
            rw [t2]
            simp only [List.map_append, List.map_cons, List.map_nil, List.append_assoc] at hA ⊢
            exact ascL_snoc hA h3
          walk_at "w"
          exact q
      · obtain ⟨s, t, rfl, hA⟩ := hI
        rw [rgD_len] at hA
        walk_at "w"
        refine Pto p (b := true) ?_
        rw [eM, ha]
        have : ds.take (((ds.length : Nat) : Int) - 1).toNat.succ = ds := List.take_of_length_le (by omega)
        rw [this] at hA
        rw [hA]; rfl
  | dct _ _ => exact hd.elim
  | ltr _ _ _ _ _ => exact hd.elim
  | scr _ => exact hd.elim
  | _ => walk_at "w"; exact p
end
end
section
open PySem PySem.Spec PyProof.Rows L2
open Evl (Ex ex_rd ex_l ex_t)
open CwR
set_option autoImplicit false
open Bod (NmOk NuOk TtOk TxOk)
def numW (w : Str) : Int := if decide (1 ≤ w.length) && (decide (w.length ≤ 19) && (!decide ((TL.tl w).head? = some 48) && (TL.tl w).all digCh)) then ((NumText.digitsVal (TL.tl w) : Nat) : Int) else 0
def pairW (w : Str) : Str × Int := match Txt.split w " " with
  | [a, b] => (a, numW b)
  | _ => (Str.empty, 0)
theorem numW_no {w : Str} (h : ¬ (1 ≤ w.length ∧ w.length ≤ 19 ∧ (TL.tl w).head? ≠ some 48 ∧ ∀ c ∈ TL.tl w, digCh c = true)) : numW w = 0 := by
  unfold numW
  rw [if_neg]
  intro z
  simp only [Bool.and_eq_true, decide_eq_true_eq, Bool.not_eq_true', decide_eq_false_iff_not, List.all_eq_true] at z
  exact h ⟨z.1, z.2.1, z.2.2.1, z.2.2.2⟩
theorem numW_of {w : Str} (h1 : 1 ≤ w.length) (h2 : w.length ≤ 19) (h0 : (TL.tl w).head? ≠ some 48) (h3 : ∀ c ∈ TL.tl w, digCh c = true) : numW w = ((NumText.digitsVal (TL.tl w) : Nat) : Int) := by
  unfold numW
  rw [if_pos]
  simp only [Bool.and_eq_true, decide_eq_true_eq, Bool.not_eq_true', decide_eq_false_iff_not, List.all_eq_true]
  exact ⟨h1, h2, h0, h3⟩
theorem numW_int {w : Str} (h1 : 1 ≤ w.length) (h2 : w.length ≤ 19) (h0 : (TL.tl w).head? ≠ some 48) (h3 : ∀ c ∈ TL.tl w, digCh c = true) : intText? w = some (numW w) ∧ w.length ≤ 640 := by
  rw [numW_of h1 h2 h0 h3]
  refine ⟨intText_digits (fun c hc => digCh_iff.mp (h3 c hc)) (fun z => ?_) (by omega), by omega⟩
  rw [TL.len_tl, show TL.tl w = [] from z] at h1
  simp at h1
theorem numL_head : ∀ {m : Nat}, 1 ≤ m → (TL.numL m).head? ≠ some 48 := by
  intro m
  induction m using Nat.strongRecOn with
  | _ m ih =>
    intro h
    by_cases hm : m < 10
    · rw [TL.numL_lt hm]
      intro z
      have : 48 + m = 48 := by simpa using z
      omega
    · rw [TL.numL_step (by omega)]
      have := ih (m / 10) (by omega) (by omega)
      cases e : TL.numL (m / 10) with
      | nil => exact absurd e (TL.numL_ne _)
      | cons a r => rw [e] at this; exact this
/-- a number's text without a zero ahead -/
theorem numW_back {w : Str} (h : NuOk (numW w)) : w = numS (numW w) := by
  obtain ⟨m, em, h1, h2⟩ := numOk_nat h
  have hc : 1 ≤ w.length ∧ w.length ≤ 19 ∧ (TL.tl w).head? ≠ some 48 ∧ ∀ c ∈ TL.tl w, digCh c = true := by
    by_cases c : 1 ≤ w.length ∧ w.length ≤ 19 ∧ (TL.tl w).head? ≠ some 48 ∧ ∀ c ∈ TL.tl w, digCh c = true
    · exact c
    · rw [numW_no c] at em
      omega
  obtain ⟨q1, q2, q3, q4⟩ := hc
  have e := numW_of q1 q2 q3 q4
  rw [e]
  refine TL.ext_tl ?_
  rw [tl_numS]
  have hd : NumText.AllDigits (TL.tl w) := fun c hc => digCh_iff.mp (q4 c hc)
  have hne : TL.tl w ≠ [] := fun z => by rw [TL.len_tl, z] at q1; simp at q1
  have ht := NumText.toDigits_digitsVal ((TL.tl w).length - 1) (TL.tl w) (by rw [TL.len_tl] at q1; omega) hd (by
    right
    cases el : TL.tl w with
    | nil => exact absurd el hne
    | cons c r =>
      refine ⟨c, r, rfl, ?_⟩
      have hc48 : c ≠ 48 := fun z => q3 (by rw [el, z]; rfl)
      have := hd c (by rw [el]; exact List.mem_cons_self)
      omega)
  unfold TL.numL
  rw [ht, List.map_map]
  have : ∀ c ∈ TL.tl w, (Char.toNat ∘ Char.ofNat) c = c := fun c hc => by
    have := hd c hc
    show (Char.ofNat c).toNat = c
    have : ∀ d : Nat, d < 58 → (Char.ofNat d).toNat = d := by decide
    exact this c (by omega)
  rw [List.map_congr_left this]
  exact (List.map_id _).symm
theorem numW_numS {n : Int} (h : NuOk n) : numW (numS n) = n := by
  have hp := numP_numS h
  obtain ⟨m, rfl, h1, h2⟩ := numOk_nat h
  have hl := numS_len (n := (m : Int)) (by omega) (by omega)
  have hne := TL.numL_ne m
  have e1 : 1 ≤ (numS (m : Int)).length := by
    rw [TL.len_tl, tl_numS]
    exact List.length_pos_iff.mpr hne
  have e3 : ∀ c ∈ TL.tl (numS (m : Int)), digCh c = true := fun c hc => digCh_iff.mpr (by rw [tl_numS] at hc; exact TL.numL_digits m c hc)
  have e0 : (TL.tl (numS (m : Int))).head? ≠ some 48 := by
    rw [tl_numS]
    exact numL_head (by omega)
  rw [numW_of e1 hl e0 e3, tl_numS, TL.numL_val]
theorem nm_split {x y : Str} (h : 32 ∉ TL.tl x) (h' : 32 ∉ TL.tl y) : Txt.split (x ++ (" " : Str) ++ y) " " = [x, y] := by
  have := TL.split_join (y := " ") (s := 32) (S := []) rfl (by decide +kernel) (parts := [x, y]) (by simp) (fun p hp => by
    rcases List.mem_cons.mp hp with z | z
    · rw [z]; exact h
    · rw [List.mem_singleton.mp z]; exact h')
  rw [← this]
  congr 1
theorem numS_free {n : Int} (h : NuOk n) : 32 ∉ TL.tl (numS n) := by
  obtain ⟨m, rfl, _, _⟩ := numOk_nat h
  rw [tl_numS]
  exact TL.numL_free (.inl (by decide))
theorem pairW_refS {x : Str} {n : Int} (h1 : NmOk x) (h2 : NuOk n) : pairW (refS x n) = (x, n) := by
  unfold pairW refS
  rw [nm_split (nm_free h1 (by decide)) (numS_free h2)]
  show (x, numW (numS n)) = _
  rw [numW_numS h2]
theorem spl_cat : ∀ (l acc : List Nat) (a b : List Nat), TL.spl [32] 0 acc l = [a, b] → acc ++ l = a ++ 32 :: b
  | [], acc, a, b, h => by rw [TL.spl_nil] at h; simp at h
  | c :: r, acc, a, b, h => by
    by_cases hc : c = 32
    · subst hc
      rw [TL.spl_hit (show TL.pre [32] (32 :: r) = true from TL.pre_self [32] r)] at h
      injection h with h1 h2
      have h2 : TL.spl [32] 0 [] r = [b] := h2
      have : r = b := by
        have := spl_one r [] b h2
        simpa using this
      rw [h1, this]
    · rw [TL.spl_miss (TL.pre_of_head [] r hc)] at h
      have := spl_cat r (acc ++ [c]) a b h
      rw [← this, List.append_assoc]; rfl
where
  spl_one : ∀ (l acc b : List Nat), TL.spl [32] 0 acc l = [b] → acc ++ l = b
  | [], acc, b, h => by rw [TL.spl_nil] at h; injection h with h1; rw [List.append_nil]; exact h1
  | c :: r, acc, b, h => by
    by_cases hc : c = 32
    · subst hc
      rw [TL.spl_hit (show TL.pre [32] (32 :: r) = true from TL.pre_self [32] r)] at h
      injection h with h1 h2
      exfalso
      have : ∀ (l acc : List Nat) (k : Nat), TL.spl [32] k acc l ≠ [] := by
        intro l
        induction l with
        | nil => intro acc k z; rw [TL.spl_nil] at z; cases z
        | cons c r ih =>
          intro acc k z
          cases k with
          | zero =>
            by_cases hc : c = 32
            · subst hc
              rw [TL.spl_hit (show TL.pre [32] (32 :: r) = true from TL.pre_self [32] r)] at z; cases z
            · rw [TL.spl_miss (TL.pre_of_head [] r hc)] at z
              exact ih _ _ z
          | succ k => exact ih acc k z
      exact this r [] _ h2
    · rw [TL.spl_miss (TL.pre_of_head [] r hc)] at h
      have := spl_one r (acc ++ [c]) b h
      rw [← this, List.append_assoc]; rfl
theorem split_cat {w a b : Str} (h : Txt.split w " " = [a, b]) : w = a ++ (" " : Str) ++ b := by
  have e := TL.split_spl w " " (fun z => by cases z) (TL.kind_ok (by decide +kernel))
  rw [h] at e
  have := spl_cat (TL.tl w) [] (TL.tl a) (TL.tl b) e.symm
  refine TL.ext_tl ?_
  rw [TL.tl_append, TL.tl_append, List.append_assoc]
  exact this
theorem pairW_back {w x : Str} {n : Int} (h : pairW w = (x, n)) (h2 : NuOk n) : w = refS x n := by
  unfold pairW at h
  split at h
  · rename_i a b e
    cases h
    have hb := numW_back h2
    have := split_cat e
    unfold refS
    rw [← hb]; exact this
  · cases h
    exact absurd h2 (by decide)
section
variable {Pr : Program} {w : World} {K : PySem.W.Frag} {mg : Str → Option Value} {base : Heap} {C CB : Addr}
abbrev fWhole : Fn := Fn1 fun d P => ∃ w, d = .str w ∧ w.length ≤ 50000 ∧ P (.int (numW w))
abbrev fPair : Fn := Fn1 fun d P => ∃ w, d = .str w ∧ w.length ≤ 50000 ∧ P (refD (pairW w).1 (pairW w).2)
theorem ok__law_whole (T : Txt w K mg C CB) : CallOk Pr w K mg base CX0 1 "_law_whole" ["_law_word"] (spP K C (fWhole)) := by
  refine T.d__law_whole.ok sc__law_whole (fun vs H Q E h => len_P Fn1.len h) (fun f cdv A outer s H vs Q E hr h => ⟨_, (pss_cons (ps_if (PW.pt (pw_or (pt_cmpR op_eq (pe_callB cLen (by rfl) T.n_len bb_len (pa_cons (pv 0) pa_nil)) pe_int (nomark _)) (pw_or (pt_cmpR op_gt (pe_callB cLen (by rfl) T.n_len bb_len (pa_cons (pv 0) pa_nil)) pe_int (nomark _)) (pw_or1 (pt_cmpR op_eq (pe_ix ix_str (pv 0) pe_int (fun _ _ => rfl)) pe_str (nomark _)))))) (pss_one (ps_ret pe_int)) pss_nil)
      (pss_cons (ps_if (pt_cmpR op_gt (pe_callB cLen (by rfl) T.n_len bb_len (pa_cons (pe_lc (own := [("_law_char", 1)]) (g := gName 1) rfl sc__law_whole.nd (pi_str (pv 0)) (blkOk_by (own := [("_law_char", 1)]) (N := N__law_whole) (sc := defScope s__law_whole) (by decide +kernel)) (fun _ _ _ _ _ => pg_name (i := 1) sc__law_whole.nd rfl (Or.inl rfl)) (fun _ _ _ _ _ => pts_one (pt_cmpR oNotInS (pv 1) pe_str (by rfl))) (fun _ _ _ _ _ => (pv 1))) pa_nil)) pe_int (nomark _)) (pss_one (ps_ret pe_int)) pss_nil)
      (pss_one (ps_ret (pe_callTy cIntS (by rfl) T.n_int bb_int (pa_cons (pv 0) pa_nil)))))), body_P h fun ds P hf => ?_⟩)
  obtain ⟨_, rfl, x, rfl, hx, p⟩ := hf
  refine ⟨Nat.le_of_ble_eq_true rfl, ?_⟩
  show WS _ _ [.dat (.str x), .un] _ _ _ _
  try dsimp only [cxOf]
  have el := TL.len_tl x
  have hx' : x.length ≤ 100000 := by omega
  walk_at "w"
  refine if_2 (fun h1 => ?_) (fun h1 => ?_)
  · have h1 := of_decide_eq_true h1
    walk_at "w"
    exact PtoI p (numW_no fun l => by omega)
  · simp only [decide_eq_false_iff_not] at h1
    walk_at "w"
    refine if_2 (fun h2 => ?_) (fun h2 => ?_)
    · have h2 := of_decide_eq_true h2
      walk_at "w"
      exact PtoI p (numW_no fun l => by omega)
    · simp only [decide_eq_false_iff_not] at h2
      walk_at "w"
      cases ht : TL.tl x with
      | nil => rw [ht] at el; simp only [List.length_nil] at el; omega
      | cons c r =>
      refine od_ixS (c := c) hx' (by show atI (TL.tl x) 0 = _; rw [ht]; exact atI_zero) ?_
      have e0 : decide ((⟨#[c]⟩ : Str) = Str.ofString "0") = decide (c = 48) := one_eq
      walk_at "w"
      rw [e0]
      refine if_2 (fun h3 => ?_) (fun h3 => ?_)
      · walk_at "w"
        refine PtoI p (numW_no fun l => l.2.2.1 ?_)
        rw [ht, of_decide_eq_true h3]; rfl
      · have h0 : (TL.tl x).head? ≠ some 48 := fun z => by
          rw [ht] at z
          have : c = 48 := by simpa using z
          rw [this] at h3; simp at h3
        walk_at "w"
        refine LcInv.filter (chF fun c => !digCh c) ?la ?lb (fun i d hd => ?_) ?_
        case la => exact Nat.le_of_ble_eq_true rfl
        case lb => rw [chD_len]; omega
        · obtain ⟨c', hc', rfl⟩ := chD_get hd
          walk_at "w"
          rfl
        · walk_at "w"
          rw [chD_filter, filter_some, all_nn]
          cases ha : (TL.tl x).all digCh with
          | false =>
            walk_at "w"
            refine PtoI p (numW_no fun l => ?_)
            rw [List.all_eq_true.mpr l.2.2.2] at ha; cases ha
          | true =>
            obtain ⟨q1, q2⟩ := numW_int (w := x) (by omega) (by omega) h0 (List.all_eq_true.mp ha)
            walk_at "w"
            refine cd_intS q1 q2 ?_
            exact p
theorem ok__law_pair (T : Txt w K mg C CB) : CallOk Pr w K mg base CX0 2 "_law_pair" ["_law_words"] (spP K C (fPair)) := by
  have c__law_whole := @ok__law_whole Pr w K mg base C CB T
  refine T.d__law_pair.ok sc__law_pair (fun vs H Q E h => len_P Fn1.len h) (fun f cdv A outer s H vs Q E hr h => ⟨_, (pss_cons (ps_set (i := 1) sc__law_pair.nd rfl (.inl rfl) (pe_m1 PySem.F.slot_str_split PySem.F.type_str_split mSplit (pv 0) pe_str))
      (pss_cons (ps_if (pt_cmpR op_ne (pe_callB cLen (by rfl) T.n_len bb_len (pa_cons (pv 1) pa_nil)) pe_int (nomark _)) (pss_one (ps_ret (pe_tup (pa_cons pe_str (pa_cons pe_int pa_nil))))) pss_nil)
      (pss_one (ps_ret (pe_tup (pa_cons (pe_ix ix_list (pv 1) pe_int (fun _ _ => rfl)) (pa_cons (pe_cal c__law_whole (hr.mono (by decide)) pass0 (pa_cons (pe_ix ix_list (pv 1) pe_int (fun _ _ => rfl)) pa_nil)) pa_nil))))))), body_P h fun ds P hf => ?_⟩)
  obtain ⟨_, rfl, x, rfl, hx, p⟩ := hf
  refine ⟨Nat.le_of_ble_eq_true rfl, ?_⟩
  show WS _ _ [.dat (.str x), .un] _ _ _ _
  try dsimp only [cxOf]
  have hx' : x.length ≤ 90000 := by omega
  have hsp := split_parts x " " (fun z => by cases z) (by decide +kernel)
  walk_at "w"
  rw [List.length_map]
  match e : Txt.split x (Str.ofString " ") with
  | [a, b] =>
    have hb : b.length ≤ 50000 := by
      have := (hsp.2 b (by rw [e]; simp)).1
      omega
    walk_at "w"
    refine PtoD p ?_
    unfold pairW
    rw [show Txt.split x " " = [a, b] from e]
  | [] =>
    walk_at "w"
    refine PtoD p ?_
    unfold pairW
    rw [show Txt.split x " " = [] from e]; rfl
  | [_] =>
    walk_at "w"
    refine PtoD p ?_
    unfold pairW
    rw [show Txt.split x " " = [_] from e]; rfl
  | _ :: _ :: _ :: _ =>
    walk_at "w"
    refine PtoD p ?_
    unfold pairW
    rw [show Txt.split x " " = _ :: _ :: _ :: _ from e]; rfl
end
end
section
open PySem PySem.Spec PyProof.Rows L2
open Evl (Ex ex_rd ex_l ex_t)
open CwR
set_option autoImplicit false
open Bod (NmOk NuOk TtOk TxOk)
def shp1 : List (Str × List Str) := [("found", ["title", "names"]), ("say", ["text"]), ("reply", ["ref", "text"]), ("edit", ["ref", "text"])]
def shp2 : List (Str × List Str) := [("recall", ["ref"]), ("mark", ["ref", "name"]), ("title", ["title"]), ("add", ["name"]), ("cut", ["name"])]
def getL : List (Str × List Str) → Str → Option (List Str)
  | [], _ => none
  | p :: r, k => if p.1 = k then some p.2 else getL r k
def lstD (ss : List Str) : D := .lst (ss.map .str)
def kvL (l : List (Str × List Str)) : KVs := l.map fun p => (p.1, lstD p.2)
theorem getP_kvL (k : Str) : ∀ l : List (Str × List Str), getP (kvL l) k = (getL l k).map lstD
  | [] => rfl
  | p :: r => by
    show (if p.1 = k then some (lstD p.2) else getP (kvL r) k) = (if p.1 = k then some p.2 else getL r k).map lstD
    rw [getP_kvL k r]
    split <;> rfl
def shapesL (k : Str) : Option (List Str) := match getL shp1 k with
  | some ss => some ss
  | none => match getL shp2 k with
    | some ss => some ss
    | none => if k = "hand" then some ["name"] else if k = "seen" then some [] else none
def shD : Option (List Str) → D
  | some ss => lstD ss
  | none => .non
def fitsD (s : Str) (e : D) : Bool := if s = "title" then isTitleD e else if s = "names" then isMembersD e else if s = "text" then isTextD e else if s = "ref" then isRefD e else isNameD e
def fitsL : List Str → List D → Bool
  | [], [] => true
  | s :: ss, d :: ds => fitsD s d && fitsL ss ds
  | _, _ => false
theorem fitsL_len : ∀ {ss : List Str} {ds : List D}, ¬ ss.length = ds.length → fitsL ss ds = false
  | [], [], h => absurd rfl h
  | [], _ :: _, _ => rfl
  | _ :: _, [], _ => rfl
  | s :: ss, d :: ds, h => by
    show (fitsD s d && fitsL ss ds) = false
    rw [fitsL_len (fun e => h (by rw [List.length_cons, List.length_cons, e])), Bool.and_false]
theorem fitsL_all : ∀ {ss : List Str} {ds : List D}, ss.length = ds.length → (∀ (i : Nat) (s : Str) (d : D), ss[i]? = some s → ds[i]? = some d → fitsD s d = true) → fitsL ss ds = true
  | [], [], _, _ => rfl
  | [], _ :: _, h, _ => by cases h
  | _ :: _, [], h, _ => by cases h
  | s :: ss, d :: ds, h, a => by
    show (fitsD s d && fitsL ss ds) = true
    rw [a 0 s d rfl rfl, fitsL_all (by simpa using h) fun i s' d' h1 h2 => a (i + 1) s' d' (by simpa using h1) (by simpa using h2)]; rfl
theorem fitsL_bad : ∀ {ss : List Str} {ds : List D} {i : Nat} {s : Str} {d : D}, ss[i]? = some s → ds[i]? = some d → fitsD s d = false → fitsL ss ds = false
  | [], _, i, s, d, h, _, _ => by simp at h
  | _ :: _, [], i, s, d, _, h, _ => by simp at h
  | s' :: ss, d' :: ds, 0, s, d, h1, h2, e => by
    simp at h1 h2
    subst h1; subst h2
    show (fitsD s' d' && fitsL ss ds) = false
    rw [e]; rfl
  | s' :: ss, d' :: ds, i + 1, s, d, h1, h2, e => by
    show (fitsD s' d' && fitsL ss ds) = false
    rw [fitsL_bad (i := i) (by simpa using h1) (by simpa using h2) e, Bool.and_false]
theorem fits_title (d : D) : fitsD "title" d = isTitleD d := rfl
theorem fits_names (d : D) : fitsD "names" d = isMembersD d := rfl
theorem fits_text (d : D) : fitsD "text" d = isTextD d := rfl
theorem fits_ref (d : D) : fitsD "ref" d = isRefD d := rfl
theorem fits_name (d : D) : fitsD "name" d = isNameD d := rfl
theorem fits_one {s : Str} {f : D → Bool} (h : ∀ d, fitsD s d = f d) (r : List D) : fitsL [s] r = (match r with | [t] => f t | _ => false) := by
  match r with
  | [] => rfl
  | [t] => show (fitsD s t && true) = _; rw [h, Bool.and_true]
  | _ :: _ :: _ => show (_ && false) = false; rw [Bool.and_false]
theorem fits_two {s t : Str} {f g : D → Bool} (h : ∀ d, fitsD s d = f d) (h' : ∀ d, fitsD t d = g d) (r : List D) : fitsL [s, t] r = (match r with | [x, y] => f x && g y | _ => false) := by
  match r with
  | [] => rfl
  | [_] => show (_ && false) = false; rw [Bool.and_false]
  | [x, y] => show (fitsD s x && (fitsD t y && true)) = _; rw [h, h', Bool.and_true]
  | _ :: _ :: _ :: _ => show (_ && (_ && false)) = false; rw [Bool.and_false, Bool.and_false]
theorem body_shapes (k : Str) (r : List D) : isBodyD (.tup (.str k :: r)) = (match shapesL k with | some ss => fitsL ss r | none => false) := by
  by_cases k0 : k = "found"
  · subst k0; exact (fits_two fits_title fits_names r).symm
  by_cases k1 : k = "say"
  · subst k1; exact (fits_one fits_text r).symm
  by_cases k2 : k = "reply"
  · subst k2; exact (fits_two fits_ref fits_text r).symm
  by_cases k3 : k = "edit"
  · subst k3; exact (fits_two fits_ref fits_text r).symm
  by_cases k4 : k = "recall"
  · subst k4; exact (fits_one fits_ref r).symm
  by_cases k5 : k = "mark"
  · subst k5; exact (fits_two fits_ref fits_name r).symm
  by_cases k6 : k = "title"
  · subst k6; exact (fits_one fits_title r).symm
  by_cases k7 : k = "add"
  · subst k7; exact (fits_one fits_name r).symm
  by_cases k8 : k = "cut"
  · subst k8; exact (fits_one fits_name r).symm
  by_cases k9 : k = "hand"
  · subst k9; exact (fits_one fits_name r).symm
  by_cases ka : k = "seen"
  · subst ka
    show (match r with | [] => true | _ => false) = fitsL [] r
    cases r <;> rfl
  have e : shapesL k = none := by
    unfold shapesL shp1 shp2
    simp only [getL, if_neg (fun z => k0 (Eq.symm z)), if_neg (fun z => k1 (Eq.symm z)), if_neg (fun z => k2 (Eq.symm z)), if_neg (fun z => k3 (Eq.symm z)), if_neg (fun z => k4 (Eq.symm z)), if_neg (fun z => k5 (Eq.symm z)), if_neg (fun z => k6 (Eq.symm z)), if_neg (fun z => k7 (Eq.symm z)), if_neg (fun z => k8 (Eq.symm z)), if_neg k9, if_neg ka]
  rw [e]
  unfold isBodyD
  simp only [k0, k1, k2, k3, k4, k5, k6, k7, k8, k9, ka, if_false]
section
variable {Pr : Program} {w : World} {K : PySem.W.Frag} {mg : Str → Option Value} {base : Heap} {C CB : Addr}
abbrev fShapes : Fn := Fn1 fun d P => ∃ k, d = .str k ∧ P (shD (shapesL k))
abbrev fFits : Fn := Fn2 fun d e P => ∃ s, d = .str s ∧ Sm e ∧ P (.bl (fitsD s e))
theorem ok__law_shapes (T : Txt w K mg C CB) : CallOk Pr w K mg base CX0 1 "_law_shapes" ["_law_kind"] (spP K C (fShapes)) := by
  refine T.d__law_shapes.ok sc__law_shapes (fun vs H Q E h => len_P Fn1.len h) (fun f cdv A outer s H vs Q E hr h => ⟨_, (pss_cons (ps_set (i := 1) sc__law_shapes.nd rfl (.inl rfl) (pe_disp (pps_cons pe_str (pe_lst (pa_cons pe_str (pa_cons pe_str pa_nil))) (pps_cons pe_str (pe_lst (pa_cons pe_str pa_nil)) (pps_cons pe_str (pe_lst (pa_cons pe_str (pa_cons pe_str pa_nil))) (pps_cons pe_str (pe_lst (pa_cons pe_str (pa_cons pe_str pa_nil))) pps_nil)))) (by rfl) (by rfl) (fun z => by cases z) (by decide)))
      (pss_cons (ps_set (i := 2) sc__law_shapes.nd rfl (.inl rfl) (pe_disp (pps_cons pe_str (pe_lst (pa_cons pe_str pa_nil)) (pps_cons pe_str (pe_lst (pa_cons pe_str (pa_cons pe_str pa_nil))) (pps_cons pe_str (pe_lst (pa_cons pe_str pa_nil)) (pps_cons pe_str (pe_lst (pa_cons pe_str pa_nil)) (pps_cons pe_str (pe_lst (pa_cons pe_str pa_nil)) pps_nil))))) (by rfl) (by rfl) (fun z => by cases z) (by decide)))
      (pss_cons (ps_if (pt_cmp (pc_din (hu_of hr) (pv 0) (pv 1)) (by rfl)) (pss_one (ps_ret (pe_dget (hu_of hr) (pv 1) (pv 0) (fun _ _ => rfl)))) pss_nil)
      (pss_cons (ps_if (pt_cmp (pc_din (hu_of hr) (pv 0) (pv 2)) (by rfl)) (pss_one (ps_ret (pe_dget (hu_of hr) (pv 2) (pv 0) (fun _ _ => rfl)))) pss_nil)
      (pss_cons (ps_if (pt_cmpR op_eq (pv 0) pe_str (nomark _)) (pss_one (ps_ret (pe_lst (pa_cons pe_str pa_nil)))) pss_nil)
      (pss_cons (ps_if (pt_cmpR op_eq (pv 0) pe_str (nomark _)) (pss_one (ps_ret (pe_lst pa_nil))) pss_nil)
      (pss_one (ps_ret pe_non)))))))), body_P h fun ds P hf => ?_⟩)
  obtain ⟨_, rfl, k, rfl, p⟩ := hf
  refine ⟨Nat.le_of_ble_eq_true rfl, ?_⟩
  show WS _ _ [.dat (.str k), .un, .un] _ _ _ _
  try dsimp only [cxOf]
  walk_at "w"
  refine if_2 (fun h1 => ?_) (fun h1 => ?_)
  · have h1 : (getP (kvL shp1) k).isSome = true := h1
    rw [getP_kvL] at h1
    cases e : getL shp1 k with
    | none => rw [e] at h1; cases h1
    | some ss =>
      refine ws_ret (wp_dget (wp_var rfl ⟨kvL shp1, rfl, wp_var rfl ⟨k, lstD ss, rfl, by rw [getP_kvL, e]; rfl, ?_⟩⟩))
      exact PtoD p (by unfold shapesL; rw [e]; rfl)
  · have h1 : (getP (kvL shp1) k).isSome = false := h1
    rw [getP_kvL] at h1
    cases e : getL shp1 k with
    | some ss => rw [e] at h1; cases h1
    | none =>
      walk_at "w"
      refine if_2 (fun h2 => ?_) (fun h2 => ?_)
      · have h2 : (getP (kvL shp2) k).isSome = true := h2
        rw [getP_kvL] at h2
        cases e2 : getL shp2 k with
        | none => rw [e2] at h2; cases h2
        | some ss =>
          refine ws_ret (wp_dget (wp_var rfl ⟨kvL shp2, rfl, wp_var rfl ⟨k, lstD ss, rfl, by rw [getP_kvL, e2]; rfl, ?_⟩⟩))
          exact PtoD p (by unfold shapesL; rw [e, e2]; rfl)
      · have h2 : (getP (kvL shp2) k).isSome = false := h2
        rw [getP_kvL] at h2
        cases e2 : getL shp2 k with
        | some ss => rw [e2] at h2; cases h2
        | none =>
          walk_at "w"
          refine if_2 (fun h3 => ?_) (fun h3 => ?_)
          · walk_at "w"
            exact PtoD p (by unfold shapesL; rw [e, e2]; show shD (if k = "hand" then _ else _) = _; rw [if_pos (of_decide_eq_true h3)]; rfl)
          · simp only [decide_eq_false_iff_not] at h3
            walk_at "w"
            refine if_2 (fun h4 => ?_) (fun h4 => ?_)
            · walk_at "w"
              exact PtoD p (by unfold shapesL; rw [e, e2]; show shD (if k = "hand" then _ else _) = _; rw [if_neg h3, if_pos (of_decide_eq_true h4)]; rfl)
            · simp only [decide_eq_false_iff_not] at h4
              walk_at "w"
              exact PtoD p (by unfold shapesL; rw [e, e2]; show shD (if k = "hand" then _ else _) = _; rw [if_neg h3, if_neg h4]; rfl)
theorem ok__law_fits (T : Txt w K mg C CB) : CallOk Pr w K mg base CX0 3 "_law_fits" ["_law_shape", "_law_thing"] (spP K C (fFits)) := by
  have c__law_is_line := @ok__law_is_line Pr w K mg base C CB T
  have c__law_is_name := @ok__law_is_name Pr w K mg base C CB T
  have c__law_is_names := @ok__law_is_names Pr w K mg base C CB T
  have c__law_is_ref := @ok__law_is_ref Pr w K mg base C CB T
  have c__law_is_text := @ok__law_is_text Pr w K mg base C CB T
  refine T.d__law_fits.ok sc__law_fits (fun vs H Q E h => len_P Fn2.len h) (fun f cdv A outer s H vs Q E hr h => ⟨_, (pss_cons (ps_if (pt_cmpR op_eq (pv 0) pe_str (nomark _)) (pss_one (ps_ret (pe_cal c__law_is_line (hr.mono (by decide)) pass0 (pa_cons (pv 1) pa_nil)))) pss_nil)
      (pss_cons (ps_if (pt_cmpR op_eq (pv 0) pe_str (nomark _)) (pss_one (ps_ret (pe_cal c__law_is_names (hr.mono (by decide)) pass0 (pa_cons (pv 1) pa_nil)))) pss_nil)
      (pss_cons (ps_if (pt_cmpR op_eq (pv 0) pe_str (nomark _)) (pss_one (ps_ret (pe_cal c__law_is_text (hr.mono (by decide)) pass0 (pa_cons (pv 1) pa_nil)))) pss_nil)
      (pss_cons (ps_if (pt_cmpR op_eq (pv 0) pe_str (nomark _)) (pss_one (ps_ret (pe_cal c__law_is_ref (hr.mono (by decide)) pass0 (pa_cons (pv 1) pa_nil)))) pss_nil)
      (pss_one (ps_ret (pe_cal c__law_is_name (hr.mono (by decide)) pass0 (pa_cons (pv 1) pa_nil)))))))), body_P h fun ds P hf => ?_⟩)
  obtain ⟨_, d, rfl, s, rfl, hd, p⟩ := hf
  refine ⟨Nat.le_of_ble_eq_true rfl, ?_⟩
  show WS _ _ [.dat (.str s), .dat d] _ _ _ _
  try dsimp only [cxOf]
  walk_at "w"
  refine if_2 (fun h1 => ?_) (fun h1 => ?_)
  · walk_at "w"
    exact Pto p (by unfold fitsD; rw [if_pos (of_decide_eq_true h1)])
  · simp only [decide_eq_false_iff_not] at h1
    walk_at "w"
    refine if_2 (fun h2 => ?_) (fun h2 => ?_)
    · walk_at "w"
      exact Pto p (by unfold fitsD; rw [if_neg h1, if_pos (of_decide_eq_true h2)])
    · simp only [decide_eq_false_iff_not] at h2
      walk_at "w"
      refine if_2 (fun h3 => ?_) (fun h3 => ?_)
      · walk_at "w"
        exact Pto p (by unfold fitsD; rw [if_neg h1, if_neg h2, if_pos (of_decide_eq_true h3)])
      · simp only [decide_eq_false_iff_not] at h3
        walk_at "w"
        refine if_2 (fun h4 => ?_) (fun h4 => ?_)
        · walk_at "w"
          exact Pto p (by unfold fitsD; rw [if_neg h1, if_neg h2, if_neg h3, if_pos (of_decide_eq_true h4)])
        · simp only [decide_eq_false_iff_not] at h4
          walk_at "w"
          exact Pto p (by unfold fitsD; rw [if_neg h1, if_neg h2, if_neg h3, if_neg h4])
theorem ok__law_is_body (T : Txt w K mg C CB) : CallOk Pr w K mg base CX0 4 "_law_is_body" ["_law_thing"] (spP K C (fD isBodyD)) := by
  have c__law_fits := @ok__law_fits Pr w K mg base C CB T
  have c__law_shapes := @ok__law_shapes Pr w K mg base C CB T
  refine T.d__law_is_body.ok sc__law_is_body (fun vs H Q E h => len_P Fn1.len h) (fun f cdv A outer s H vs Q E hr h => ⟨_, (pss_cons (ps_if (PW.pt (pw_or (pt_not (pt_val (pe_callB call_isi (by rfl) T.n_isinstance bb_isinstance (pa_cons (pv 0) (pa_cons (pe_bltn (v := .ty "tuple") (by rfl) T.n_tuple bb_tuple rfl) pa_nil))))) (pw_or (pt_cmpR op_eq (pe_callB cLen (by rfl) T.n_len bb_len (pa_cons (pv 0) pa_nil)) pe_int (nomark _)) (pw_or1 (pt_not (pt_val (pe_callB call_isi (by rfl) T.n_isinstance bb_isinstance (pa_cons (pe_ix ix_tup (pv 0) pe_int (fun _ _ => rfl)) (pa_cons (pe_bltn (v := .ty "str") (by rfl) T.n_str bb_str rfl) pa_nil))))))))) (pss_one (ps_ret pe_bl)) pss_nil)
      (pss_cons (ps_set (i := 1) sc__law_is_body.nd rfl (.inl rfl) (pe_cal c__law_shapes (hr.mono (by decide)) pass0 (pa_cons (pe_ix ix_tup (pv 0) pe_int (fun _ _ => rfl)) pa_nil)))
      (pss_cons (ps_if (PW.pt (pw_or (pt_cmpR op_isN1 (pv 1) pe_non (nomark _)) (pw_or1 (pt_cmpR op_ne (pe_callB cLen (by rfl) T.n_len bb_len (pa_cons (pv 1) pa_nil)) (pe_op op_sub (pe_callB cLen (by rfl) T.n_len bb_len (pa_cons (pv 0) pa_nil)) pe_int) (nomark _))))) (pss_one (ps_ret pe_bl)) pss_nil)
      (pss_cons (ps_for PassesOwn.never rfl (pi_range1 rfl T.n_range (pa_cons (pe_callB cLen (by rfl) T.n_len bb_len (pa_cons (pv 1) pa_nil)) pa_nil)) (pg_name (i := 2) sc__law_is_body.nd rfl (.inl rfl))
      (pss_one (ps_if (pt_not (pt_val (pe_cal c__law_fits (hr.mono (by decide)) pass0 (pa_cons (pe_ix ix_list (pv 1) (pv 2) (fun _ _ => rfl)) (pa_cons (pe_ix ix_tup (pv 0) (pe_op op_add (pv 2) pe_int) (fun _ _ => rfl)) pa_nil))))) (pss_one (ps_ret pe_bl)) pss_nil)))
      (pss_one (ps_ret pe_bl)))))), body_P h fun ds P hf => ?_⟩)
  obtain ⟨d, rfl, hd, p⟩ := hf
  refine ⟨Nat.le_of_ble_eq_true rfl, ?_⟩
  show WS _ _ [.dat d, .un, .un] _ _ _ _
  try dsimp only [cxOf]
  cases d with
  | tup ds =>
    cases ds with
    | nil => walk_at "w"; exact p
    | cons d0 r =>
    have hs : SmL (d0 :: r) := hd.2
    have sm0 : Sm d0 := hs.1
    have smr : SmL r := hs.2
    have hlr : (d0 :: r).length ≤ 50000 := hd.1
    have hc : decide (((d0 :: r).length : Int) = 0) = false := by simp only [List.length_cons, decide_eq_false_iff_not]; omega
    cases d0 with
    | str k =>
      have eB := body_shapes k r
      walk_at "w"
      cases es : shapesL k with
      | none =>
        rw [es] at eB
        show (_ → _) ∧ _
        refine if_is (v := true) rfl (if_t ?_)
        walk_at "w"
        exact Pto p eB
      | some ss =>
        rw [es] at eB
        have eB : isBodyD (.tup (.str k :: r)) = fitsL ss r := eB
        refine if_is (v := false) rfl (if_f ?_)
        have el : ((D.str k :: r).length : Int) - 1 = (r.length : Nat) := by simp only [List.length_cons]; omega
        have hv : ∀ P', P' (.int (ss.length : Nat)) → CallD (⟨K, C, noG⟩ : Bx) (rLenV K) [shD (some ss)] P' := fun P' p' => by
          refine cd_lenL ?_
          rw [List.length_map]; exact p'
        walk_at "w"
        refine hv _ ?_
        walk_at "w"
        rw [el]
        by_cases hl : ss.length = r.length
        · have e1 : (!decide (((ss.length : Nat) : Int) = ((r.length : Nat) : Int))) = false := by rw [hl]; simp
          walk_at "w"
          refine hv _ ?_
          walk_at "w"
          refine ForInv.mk (fun i τ' => ∃ s, τ' = [.dat (.tup (.str k :: r)), .dat (.lst (ss.map .str)), s] ∧ ∀ (j : Nat) (s : Str) (d : D), j < i → ss[j]? = some s → r[j]? = some d → fitsD s d = true) ⟨_, rfl, fun j s d h => by omega⟩ (fun i d τ' hd hI => ?_) (fun τ' hI => ?_)
          · obtain ⟨s, rfl, hI⟩ := hI
            obtain ⟨hi, rfl⟩ := rgD_get hd
            have hi1 : i < ss.length := by omega
            obtain ⟨s1, hs1⟩ : ∃ e, ss[i]? = some e := ⟨_, List.getElem?_eq_getElem hi1⟩
            obtain ⟨d1, hd1⟩ : ∃ e, r[i]? = some e := ⟨_, List.getElem?_eq_getElem (by omega)⟩
            have smd := smr.get hd1
            have a1 : atI (ss.map D.str) (0 + ((i : Nat) : Int)) = some (.str s1) := by
              rw [show (0 : Int) + ((i : Nat) : Int) = ((i : Nat) : Int) by omega]; exact atI_map hs1
            have a2 : atI (D.str k :: r) (0 + ((i : Nat) : Int) + 1) = some d1 := by
              rw [show (0 : Int) + ((i : Nat) : Int) + 1 = ((i + 1 : Nat) : Int) by omega]; exact atI_nat (by simpa using hd1)
            walk_at "w"
            refine od_ixL a1 ?_
            walk_at "w"
            refine od_ixT a2 ?_
            walk_at "w"
            cases ef : fitsD s1 d1 with
            | false =>
              walk_at "w"
              exact Pto p (by rw [eB]; exact fitsL_bad hs1 hd1 ef)
            | true =>
              walk_at "w"
              intro j s d hj h1 h2
              by_cases hji : j = i
              · subst hji
                rw [hs1] at h1; rw [hd1] at h2
                cases h1; cases h2; exact ef
              · exact hI j s d (by omega) h1 h2
          · obtain ⟨s, rfl, hI⟩ := hI
            rw [rgD_len] at hI
            walk_at "w"
            refine Pto p (b := true) ?_
            rw [eB]
            refine fitsL_all hl fun i s d h1 h2 => hI i s d ?_ h1 h2
            have := (List.getElem?_eq_some_iff.mp h1).1
            omega
        · have e1 : (!decide (((ss.length : Nat) : Int) = ((r.length : Nat) : Int))) = true := by
            rw [decide_eq_false (by omega)]; rfl
          walk_at "w"
          exact Pto p (by rw [eB]; exact fitsL_len hl)
    | dct _ _ => exact sm0.elim
    | ltr _ _ _ _ _ => exact sm0.elim
    | scr _ => exact sm0.elim
    | _ => walk_at "w"; exact p
  | dct _ _ => exact hd.elim
  | ltr _ _ _ _ _ => exact hd.elim
  | scr _ => exact hd.elim
  | _ => walk_at "w"; exact p
end
end
section
open PySem PySem.Spec PyProof.Rows L2
open Evl (Ex ex_rd ex_l ex_t)
open CwR
set_option autoImplicit false
open Bod (NmOk NuOk TtOk TxOk)
def hasP (h w : Str) : Bool := decide (cutS h none (some (((w ++ (": " : Str)).length : Nat) : Int)) = w ++ (": " : Str))
def restW (h w : Str) : Str := cutS h (some (((w ++ (": " : Str)).length : Nat) : Int)) none
theorem hasP_eq {h w : Str} (e : hasP h w = true) : h = w ++ (": " : Str) ++ restW h w := by
  have e := of_decide_eq_true e
  have h1 := cutS_to h (w ++ (": " : Str)).length
  have h2 := cutS_from h (w ++ (": " : Str)).length
  rw [e] at h1
  refine TL.ext_tl ?_
  rw [TL.tl_append, h1]
  show _ = _ ++ TL.tl (cutS h (some (((w ++ (": " : Str)).length : Nat) : Int)) none)
  rw [h2, List.take_append_drop]
theorem hasP_of (w r : Str) : hasP (w ++ (": " : Str) ++ r) w = true ∧ restW (w ++ (": " : Str) ++ r) w = r := by
  have h1 := cutS_to (w ++ (": " : Str) ++ r) (w ++ (": " : Str)).length
  have h2 := cutS_from (w ++ (": " : Str) ++ r) (w ++ (": " : Str)).length
  rw [TL.tl_append, TL.len_tl, List.take_left] at h1
  rw [TL.tl_append, TL.len_tl, List.drop_left] at h2
  refine ⟨decide_eq_true (TL.ext_tl ?_), TL.ext_tl ?_⟩
  · rw [TL.len_tl]; exact h1
  · unfold restW; rw [TL.len_tl]; exact h2
def restsL (hs ws : List Str) : Option (List Str) := if hs.length = ws.length ∧ (List.zipWith hasP hs ws).all id = true then some (List.zipWith restW hs ws) else none
def bw1 : List (Str × List Str) := [("found", ["Title", "Members"]), ("say", ["Lines"]), ("reply", ["Ref", "Lines"]), ("edit", ["Ref", "Lines"])]
def bw2 : List (Str × List Str) := [("recall", ["Ref"]), ("mark", ["Ref", "Word"]), ("title", ["Title"]), ("seen", [])]
def bwL (k : Str) : Option (List Str) := match getL bw1 k with
  | some ss => some ss
  | none => if k = "add" ∨ k = "cut" ∨ k = "hand" then some ["Name"] else getL bw2 k
section
variable {Pr : Program} {w : World} {K : PySem.W.Frag} {mg : Str → Option Value} {base : Heap} {C CB : Addr}
abbrev fRests : Fn := Fn2 fun d e P => ∃ hs ws : List Str, d = .lst (hs.map .str) ∧ e = .lst (ws.map .str) ∧ (∀ h ∈ hs, h.length ≤ 50000) ∧ (∀ w ∈ ws, w.length ≤ 50000) ∧ hs.length ≤ 50000 ∧ P (shD (restsL hs ws))
abbrev fBodyW : Fn := Fn1 fun d P => ∃ k, d = .str k ∧ P (shD (bwL k))
theorem ok__law_rests (T : Txt w K mg C CB) : CallOk Pr w K mg base CX0 1 "_law_rests" ["_law_heads", "_law_words"] (spP K C (fRests)) := by
  refine T.d__law_rests.ok sc__law_rests (fun vs H Q E h => len_P Fn2.len h) (fun f cdv A outer s H vs Q E hr h => ⟨_, (pss_cons (ps_set (i := 2) sc__law_rests.nd rfl (.inl rfl) (pe_lst pa_nil))
      (pss_cons (ps_if (pt_cmpR op_ne (pe_callB cLen (by rfl) T.n_len bb_len (pa_cons (pv 0) pa_nil)) (pe_callB cLen (by rfl) T.n_len bb_len (pa_cons (pv 1) pa_nil)) (nomark _)) (pss_one (ps_ret pe_non)) pss_nil)
      (pss_cons (ps_for PassesOwn.never rfl (pi_range1 rfl T.n_range (pa_cons (pe_callB cLen (by rfl) T.n_len bb_len (pa_cons (pv 1) pa_nil)) pa_nil)) (pg_name (i := 3) sc__law_rests.nd rfl (.inl rfl))
      (pss_cons (ps_set (i := 4) sc__law_rests.nd rfl (.inl rfl) (pe_op oAddS (pe_ix ix_list (pv 1) (pv 3) (fun _ _ => rfl)) pe_str))
      (pss_cons (ps_if (pt_cmpR op_ne (pe_slice sl_str (pe_ix ix_list (pv 0) (pv 3) (fun _ _ => rfl)) po_none (po_some (pe_callB cLen (by rfl) T.n_len bb_len (pa_cons (pv 4) pa_nil)))) (pv 4) (nomark _)) (pss_one (ps_ret pe_non)) pss_nil)
      (pss_one (ps_expr (pe_bm PySem.F.plainAttrs_list PySem.F.slot_list_append PySem.F.type_list_append mt_append (pv 2) (pa_cons (pe_slice sl_str (pe_ix ix_list (pv 0) (pv 3) (fun _ _ => rfl)) (po_some (pe_callB cLen (by rfl) T.n_len bb_len (pa_cons (pv 4) pa_nil))) po_none) pa_nil)))))))
      (pss_one (ps_ret (pv 2)))))), body_P h fun ds P hf => ?_⟩)
  obtain ⟨_, _, rfl, hs, ws, rfl, rfl, hh, hw, hn, p⟩ := hf
  refine ⟨Nat.le_of_ble_eq_true rfl, ?_⟩
  show WS _ _ [.dat (.lst (hs.map .str)), .dat (.lst (ws.map .str)), .un, .un, .un] _ _ _ _
  try dsimp only [cxOf]
  walk_at "w"
  rw [List.length_map, List.length_map]
  by_cases hl : hs.length = ws.length
  · have e1 : (!decide (((hs.length : Nat) : Int) = ((ws.length : Nat) : Int))) = false := by rw [hl]; simp
    refine if_is e1 (if_f ?_)
    walk_at "w"
    rw [List.length_map]
    refine ForInv.mk (fun i τ' => ∃ s3 s4, τ' = [.dat (.lst (hs.map .str)), .dat (.lst (ws.map .str)), .own (List.zipWith restW (hs.take i) (ws.take i)), s3, s4] ∧ (List.zipWith hasP (hs.take i) (ws.take i)).all id = true) ⟨_, _, rfl, rfl⟩ (fun i d τ' hd hI => ?_) (fun τ' hI => ?_)
    · obtain ⟨s3, s4, rfl, hI⟩ := hI
      obtain ⟨hi, rfl⟩ := rgD_get hd
      obtain ⟨h, hh1⟩ : ∃ e, hs[i]? = some e := ⟨_, List.getElem?_eq_getElem (by omega)⟩
      obtain ⟨w, hw1⟩ : ∃ e, ws[i]? = some e := ⟨_, List.getElem?_eq_getElem (by omega)⟩
      have l1 := hh h (List.mem_of_getElem? hh1)
      have l2 := hw w (List.mem_of_getElem? hw1)
      have l3 : h.length ≤ 100000 := by omega
      have ec : (Str.ofString ": ").length = 2 := rfl
      have l4 : (w ++ Str.ofString ": ").length ≤ 100000 := by rw [slen_app]; omega
      have a1 : atI (hs.map D.str) (0 + ((i : Nat) : Int)) = some (.str h) := by
        rw [show (0 : Int) + ((i : Nat) : Int) = ((i : Nat) : Int) by omega]; exact atI_map hh1
      have a2 : atI (ws.map D.str) (0 + ((i : Nat) : Int)) = some (.str w) := by
        rw [show (0 : Int) + ((i : Nat) : Int) = ((i : Nat) : Int) by omega]; exact atI_map hw1
      have lz : (List.zipWith restW (hs.take i) (ws.take i)).length < 100000 := by
        rw [List.length_zipWith, List.length_take, List.length_take]; omega
      have t1 : hs.take (i + 1) = hs.take i ++ [h] := by rw [List.take_add_one, hh1]; rfl
      have t2 : ws.take (i + 1) = ws.take i ++ [w] := by rw [List.take_add_one, hw1]; rfl
      have lt : (hs.take i).length = (ws.take i).length := by rw [List.length_take, List.length_take, hl]
      have z1 : List.zipWith restW (hs.take (i + 1)) (ws.take (i + 1)) = List.zipWith restW (hs.take i) (ws.take i) ++ [restW h w] := by
        rw [t1, t2, List.zipWith_append lt]; rfl
      have z2 : List.zipWith hasP (hs.take (i + 1)) (ws.take (i + 1)) = List.zipWith hasP (hs.take i) (ws.take i) ++ [hasP h w] := by
        rw [t1, t2, List.zipWith_append lt]; rfl
      refine wg_name (Nat.le_of_ble_eq_true rfl) ?_
      rw [z1, z2]
      walk_at "w"
      refine od_ixL a2 ?_
      walk_at "w"
      refine od_ixL a1 ?_
      walk_at "w"
      cases ep : hasP h w with
      | false =>
        have e2 : (!decide (cutS h none (some (((w ++ Str.ofString ": ").length : Nat) : Int)) = w ++ Str.ofString ": ")) = true := by
          have : decide (cutS h none (some (((w ++ Str.ofString ": ").length : Nat) : Int)) = w ++ Str.ofString ": ") = false := ep
          rw [this]; rfl
        walk_at "w"
        refine PtoD p ?_
        unfold restsL
        rw [if_neg]
        · rfl
        · intro z
          have z := z.2
          have : hasP h w = true := by
            rw [List.all_eq_true] at z
            refine z (hasP h w) (List.mem_iff_getElem?.mpr ⟨i, ?_⟩)
            rw [List.getElem?_zipWith, hh1, hw1]
          rw [ep] at this; cases this
      | true =>
        have e2 : (!decide (cutS h none (some (((w ++ Str.ofString ": ").length : Nat) : Int)) = w ++ Str.ofString ": ")) = false := by
          have : decide (cutS h none (some (((w ++ Str.ofString ": ").length : Nat) : Int)) = w ++ Str.ofString ": ") = true := ep
          rw [this]; rfl
        refine if_is e2 (if_f (ws_next ?_))
        walk_at "w"
        refine od_ixL a1 ?_
        walk_at "w"
        rw [List.all_append, hI]; rfl
    · obtain ⟨s3, s4, rfl, hI⟩ := hI
      rw [rgD_len] at hI ⊢
      have t1 : hs.take ((ws.length : Nat) : Int).toNat = hs := List.take_of_length_le (by omega)
      have t2 : ws.take ((ws.length : Nat) : Int).toNat = ws := List.take_of_length_le (by omega)
      rw [t1, t2] at hI ⊢
      walk_at "w"
      refine PtoD p ?_
      unfold restsL
      rw [if_pos ⟨hl, hI⟩]; rfl
  · have e1 : (!decide (((hs.length : Nat) : Int) = ((ws.length : Nat) : Int))) = true := by
      rw [decide_eq_false (by omega)]; rfl
    refine if_is e1 (if_t ?_)
    walk_at "w"
    refine PtoD p ?_
    unfold restsL
    rw [if_neg (fun z => hl z.1)]; rfl
theorem ok__law_body_words (T : Txt w K mg C CB) : CallOk Pr w K mg base CX0 1 "_law_body_words" ["_law_kind"] (spP K C (fBodyW)) := by
  refine T.d__law_body_words.ok sc__law_body_words (fun vs H Q E h => len_P Fn1.len h) (fun f cdv A outer s H vs Q E hr h => ⟨_, (pss_cons (ps_set (i := 1) sc__law_body_words.nd rfl (.inl rfl) (pe_disp (pps_cons pe_str (pe_lst (pa_cons pe_str (pa_cons pe_str pa_nil))) (pps_cons pe_str (pe_lst (pa_cons pe_str pa_nil)) (pps_cons pe_str (pe_lst (pa_cons pe_str (pa_cons pe_str pa_nil))) (pps_cons pe_str (pe_lst (pa_cons pe_str (pa_cons pe_str pa_nil))) pps_nil)))) (by rfl) (by rfl) (fun z => by cases z) (by decide)))
      (pss_cons (ps_set (i := 2) sc__law_body_words.nd rfl (.inl rfl) (pe_disp (pps_cons pe_str (pe_lst (pa_cons pe_str pa_nil)) (pps_cons pe_str (pe_lst (pa_cons pe_str (pa_cons pe_str pa_nil))) (pps_cons pe_str (pe_lst (pa_cons pe_str pa_nil)) (pps_cons pe_str (pe_lst pa_nil) pps_nil)))) (by rfl) (by rfl) (fun z => by cases z) (by decide)))
      (pss_cons (ps_if (pt_cmp (pc_din (hu_of hr) (pv 0) (pv 1)) (by rfl)) (pss_one (ps_ret (pe_dget (hu_of hr) (pv 1) (pv 0) (fun _ _ => rfl)))) pss_nil)
      (pss_cons (ps_if (pt_cmpR op_in_seq (pv 0) (pe_lst (pa_cons pe_str (pa_cons pe_str (pa_cons pe_str pa_nil)))) (by rfl)) (pss_one (ps_ret (pe_lst (pa_cons pe_str pa_nil)))) pss_nil)
      (pss_one (ps_ret (pe_dget1 (hu_of hr) (pv 2) (pv 0) ⟨rfl, rfl, rfl, rfl⟩))))))), body_P h fun ds P hf => ?_⟩)
  obtain ⟨_, rfl, k, rfl, p⟩ := hf
  refine ⟨Nat.le_of_ble_eq_true rfl, ?_⟩
  show WS _ _ [.dat (.str k), .un, .un] _ _ _ _
  try dsimp only [cxOf]
  walk_at "w"
  refine if_2 (fun h1 => ?_) (fun h1 => ?_)
  · have h1 : (getP (kvL bw1) k).isSome = true := h1
    rw [getP_kvL] at h1
    cases e : getL bw1 k with
    | none => rw [e] at h1; cases h1
    | some ss =>
      refine ws_ret (wp_dget (wp_var rfl ⟨kvL bw1, rfl, wp_var rfl ⟨k, lstD ss, rfl, by rw [getP_kvL, e]; rfl, ?_⟩⟩))
      exact PtoD p (by unfold bwL; rw [e]; rfl)
  · have h1 : (getP (kvL bw1) k).isSome = false := h1
    rw [getP_kvL] at h1
    cases e : getL bw1 k with
    | some ss => rw [e] at h1; cases h1
    | none =>
      have eB : bwL k = if k = "add" ∨ k = "cut" ∨ k = "hand" then some [("Name" : Str)] else getL bw2 k := by unfold bwL; rw [e]
      by_cases hk : k = "add" ∨ k = "cut" ∨ k = "hand"
      · have ea : [D.str "add", D.str "cut", D.str "hand"].any (D.eqS k) = true := by
          rcases hk with rfl | rfl | rfl <;> rfl
        walk_at "w"
        exact PtoD p (by rw [eB, if_pos hk]; rfl)
      · have ea : [D.str "add", D.str "cut", D.str "hand"].any (D.eqS k) = false := by
          simp only [List.any_cons, List.any_nil, D.eqS, Bool.or_false, Bool.or_eq_false_iff, decide_eq_false_iff_not]
          exact ⟨fun z => hk (.inl z.symm), fun z => hk (.inr (.inl z.symm)), fun z => hk (.inr (.inr z.symm))⟩
        walk_at "w"
        refine PtoD p ?_
        rw [eB, if_neg hk]
        have := getP_kvL k bw2
        show shD (getL bw2 k) = (getP (kvL bw2) k).getD .non
        rw [this]
        cases getL bw2 k <;> rfl
end
end
section
open PySem PySem.Spec PyProof.Rows L2
open Evl (Ex ex_rd ex_l ex_t)
open CwR
set_option autoImplicit false
open Bod (NmOk NuOk TtOk TxOk)
abbrev refWD (w : Str) : D := refD (pairW w).1 (pairW w).2
def rbD (k : Str) (rs rows : List Str) : D :=
  if k = "found" then (match rs with | [r0, r1] => if rows = [] then .tup [.str "found", .str r0, .tup (if r1 = "" then [] else (Txt.split r1 ", ").map .str)] else .non | _ => .non)
  else if k = "say" then (match rs with | [r0] => if r0 = numS (rows.length : Nat) ∧ ¬ rows = [] then .tup [.str "say", .str (Txt.join "\n" rows)] else .non | _ => .non)
  else if k = "reply" then (match rs with | [r0, r1] => if r1 = numS (rows.length : Nat) ∧ ¬ rows = [] then .tup [.str "reply", refWD r0, .str (Txt.join "\n" rows)] else .non | _ => .non)
  else if k = "edit" then (match rs with | [r0, r1] => if r1 = numS (rows.length : Nat) ∧ ¬ rows = [] then .tup [.str "edit", refWD r0, .str (Txt.join "\n" rows)] else .non | _ => .non)
  else if k = "recall" then (match rs with | [r0] => if rows = [] then .tup [.str "recall", refWD r0] else .non | _ => .non)
  else if k = "mark" then (match rs with | [r0, r1] => if rows = [] then .tup [.str "mark", refWD r0, .str r1] else .non | _ => .non)
  else if k = "title" then (match rs with | [r0] => if rows = [] then .tup [.str "title", .str r0] else .non | _ => .non)
  else if k = "add" then (match rs with | [r0] => if rows = [] then .tup [.str "add", .str r0] else .non | _ => .non)
  else if k = "cut" then (match rs with | [r0] => if rows = [] then .tup [.str "cut", .str r0] else .non | _ => .non)
  else if k = "hand" then (match rs with | [r0] => if rows = [] then .tup [.str "hand", .str r0] else .non | _ => .non)
  else (match rs with | [] => if rows = [] then .tup [.str "seen"] else .non | _ => .non)
theorem bwL_cases {k : Str} {ws : List Str} (h : bwL k = some ws) : (k = "found" ∧ ws = (["Title", "Members"] : List Str)) ∨ (k = "say" ∧ ws = (["Lines"] : List Str)) ∨ (k = "reply" ∧ ws = (["Ref", "Lines"] : List Str)) ∨ (k = "edit" ∧ ws = (["Ref", "Lines"] : List Str)) ∨
    (k = "recall" ∧ ws = (["Ref"] : List Str)) ∨ (k = "mark" ∧ ws = (["Ref", "Word"] : List Str)) ∨ (k = "title" ∧ ws = (["Title"] : List Str)) ∨ (k = "add" ∧ ws = (["Name"] : List Str)) ∨ (k = "cut" ∧ ws = (["Name"] : List Str)) ∨ (k = "hand" ∧ ws = (["Name"] : List Str)) ∨ (k = "seen" ∧ ws = ([] : List Str)) := by
  by_cases k0 : k = "found"
  · subst k0; cases h; exact .inl ⟨rfl, rfl⟩
  by_cases k1 : k = "say"
  · subst k1; cases h; exact .inr (.inl ⟨rfl, rfl⟩)
  by_cases k2 : k = "reply"
  · subst k2; cases h; exact .inr (.inr (.inl ⟨rfl, rfl⟩))
  by_cases k3 : k = "edit"
  · subst k3; cases h; exact .inr (.inr (.inr (.inl ⟨rfl, rfl⟩)))
  by_cases k4 : k = "recall"
  · subst k4; cases h; exact .inr (.inr (.inr (.inr (.inl ⟨rfl, rfl⟩))))
  by_cases k5 : k = "mark"
  · subst k5; cases h; exact .inr (.inr (.inr (.inr (.inr (.inl ⟨rfl, rfl⟩)))))
  by_cases k6 : k = "title"
  · subst k6; cases h; exact .inr (.inr (.inr (.inr (.inr (.inr (.inl ⟨rfl, rfl⟩))))))
  by_cases k7 : k = "add"
  · subst k7; cases h; exact .inr (.inr (.inr (.inr (.inr (.inr (.inr (.inl ⟨rfl, rfl⟩)))))))
  by_cases k8 : k = "cut"
  · subst k8; cases h; exact .inr (.inr (.inr (.inr (.inr (.inr (.inr (.inr (.inl ⟨rfl, rfl⟩))))))))
  by_cases k9 : k = "hand"
  · subst k9; cases h; exact .inr (.inr (.inr (.inr (.inr (.inr (.inr (.inr (.inr (.inl ⟨rfl, rfl⟩)))))))))
  by_cases ka : k = "seen"
  · subst ka; cases h; exact .inr (.inr (.inr (.inr (.inr (.inr (.inr (.inr (.inr (.inr ⟨rfl, rfl⟩)))))))))
  exfalso
  unfold bwL bw1 bw2 at h
  simp only [getL, if_neg (fun z => k0 (Eq.symm z)), if_neg (fun z => k1 (Eq.symm z)), if_neg (fun z => k2 (Eq.symm z)), if_neg (fun z => k3 (Eq.symm z)), if_neg (fun z => k4 (Eq.symm z)), if_neg (fun z => k5 (Eq.symm z)), if_neg (fun z => k6 (Eq.symm z)), if_neg (fun z => ka (Eq.symm z)), k7, k8, k9, or_false, if_false] at h
  cases h
section
variable {Pr : Program} {w : World} {K : PySem.W.Frag} {mg : Str → Option Value} {base : Heap} {C CB : Addr}
abbrev fReadBL : Fn := Fn3 fun d e g P => ∃ (k : Str) (ws rs rows : List Str), d = .str k ∧ e = .lst (rs.map .str) ∧ g = .lst (rows.map .str) ∧ bwL k = some ws ∧ rs.length = ws.length ∧ (∀ r ∈ rs, r.length ≤ 50000) ∧ rows.length ≤ 50000 ∧ (rows.map (·.length)).sum ≤ 50000 ∧ (∀ l ∈ rows, ∀ c ∈ TL.tl l, c < 128) ∧ P (rbD k rs rows)
theorem len2 {α : Type} {l : List α} (h : l.length = 2) : ∃ a b, l = [a, b] := by
  match l, h with
  | [a, b], _ => exact ⟨a, b, rfl⟩
theorem len1' {α : Type} {l : List α} (h : l.length = 1) : ∃ a, l = [a] := by
  match l, h with
  | [a], _ => exact ⟨a, rfl⟩
theorem ok__law_read_body (T : Txt w K mg C CB) : CallOk Pr w K mg base CX0 3 "_law_read_body" ["_law_kind", "_law_rests_here", "_law_rows"] (spP K C (fReadBL)) := by
  have c__law_pair := @ok__law_pair Pr w K mg base C CB T
  refine T.d__law_read_body.ok sc__law_read_body (fun vs H Q E h => len_P Fn3.len h) (fun f cdv A outer s H vs Q E hr h => ⟨_, (pss_cons (ps_set (i := 3) sc__law_read_body.nd rfl (.inl rfl) (pe_m1 PySem.F.slot_str_join PySem.F.type_str_join mJoin pe_str (pv 2)))
      (pss_cons (ps_if (pt_cmpR op_in_seq (pv 0) (pe_lst (pa_cons pe_str (pa_cons pe_str (pa_cons pe_str pa_nil)))) (by rfl)) (pss_one (ps_if (PW.pt (pw_or (pt_cmpR op_ne (pe_ix ix_list (pv 1) (pe_op op_sub (pe_callB cLen (by rfl) T.n_len bb_len (pa_cons (pv 1) pa_nil)) pe_int) (fun _ _ => rfl)) (pe_callTy cStrI (by rfl) T.n_str bb_str (pa_cons (pe_callB cLen (by rfl) T.n_len bb_len (pa_cons (pv 2) pa_nil)) pa_nil)) (nomark _)) (pw_or1 (pt_cmpR (op_eqD hr.units) (pv 2) (pe_lst pa_nil) (nomark _))))) (pss_one (ps_ret pe_non)) pss_nil)) (pss_one (ps_if (pt_cmpR (op_neD hr.units) (pv 2) (pe_lst pa_nil) (nomark _)) (pss_one (ps_ret pe_non)) pss_nil)))
      (pss_cons (ps_if (pt_cmpR op_eq (pv 0) pe_str (nomark _)) (pss_cons (ps_if (pt_cmpR op_eq (pe_ix ix_list (pv 1) pe_int (fun _ _ => rfl)) pe_str (nomark _)) (pss_one (ps_ret (pe_tup (pa_cons pe_str (pa_cons (pe_ix ix_list (pv 1) pe_int (fun _ _ => rfl)) (pa_cons (pe_tup pa_nil) pa_nil)))))) pss_nil)
      (pss_one (ps_ret (pe_tup (pa_cons pe_str (pa_cons (pe_ix ix_list (pv 1) pe_int (fun _ _ => rfl)) (pa_cons (pe_callTy cTupO (by rfl) T.n_tuple bb_tuple (pa_cons (pe_m1 PySem.F.slot_str_split PySem.F.type_str_split mSplit (pe_ix ix_list (pv 1) pe_int (fun _ _ => rfl)) pe_str) pa_nil)) pa_nil))))))) pss_nil)
      (pss_cons (ps_if (pt_cmpR op_eq (pv 0) pe_str (nomark _)) (pss_one (ps_ret (pe_tup (pa_cons pe_str (pa_cons (pv 3) pa_nil))))) pss_nil)
      (pss_cons (ps_if (pt_cmpR op_in_seq (pv 0) (pe_lst (pa_cons pe_str (pa_cons pe_str pa_nil))) (by rfl)) (pss_one (ps_ret (pe_tup (pa_cons (pv 0) (pa_cons (pe_cal c__law_pair (hr.mono (by decide)) pass0 (pa_cons (pe_ix ix_list (pv 1) pe_int (fun _ _ => rfl)) pa_nil)) (pa_cons (pv 3) pa_nil)))))) pss_nil)
      (pss_cons (ps_if (pt_cmpR op_eq (pv 0) pe_str (nomark _)) (pss_one (ps_ret (pe_tup (pa_cons (pv 0) (pa_cons (pe_cal c__law_pair (hr.mono (by decide)) pass0 (pa_cons (pe_ix ix_list (pv 1) pe_int (fun _ _ => rfl)) pa_nil)) pa_nil))))) pss_nil)
      (pss_cons (ps_if (pt_cmpR op_eq (pv 0) pe_str (nomark _)) (pss_one (ps_ret (pe_tup (pa_cons (pv 0) (pa_cons (pe_cal c__law_pair (hr.mono (by decide)) pass0 (pa_cons (pe_ix ix_list (pv 1) pe_int (fun _ _ => rfl)) pa_nil)) (pa_cons (pe_ix ix_list (pv 1) pe_int (fun _ _ => rfl)) pa_nil)))))) pss_nil)
      (pss_cons (ps_if (pt_cmpR op_eq (pv 0) pe_str (nomark _)) (pss_one (ps_ret (pe_tup (pa_cons pe_str pa_nil)))) pss_nil)
      (pss_one (ps_ret (pe_tup (pa_cons (pv 0) (pa_cons (pe_ix ix_list (pv 1) pe_int (fun _ _ => rfl)) pa_nil))))))))))))), body_P h fun ds P hf => ?_⟩)
  obtain ⟨_, _, _, rfl, k, ws, rs, rows, rfl, rfl, rfl, hk, hl, hr, hn, hsum, hch, p⟩ := hf
  refine ⟨Nat.le_of_ble_eq_true rfl, ?_⟩
  show WS _ _ [.dat (.str k), .dat (.lst (rs.map .str)), .dat (.lst (rows.map .str)), .un] _ _ _ _
  try dsimp only [cxOf]
  have en : (Str.ofString "\n").length = 1 := rfl
  have hj : (rows.map (·.length)).sum + rows.length * (Str.ofString "\n").length ≤ 16777216 := by rw [en]; omega
  have hlog : (((rows.map D.str).length : Nat) : Int).natAbs.log2 < 1920 := log_ok (by omega) (by rw [List.length_map]; omega)
  have sh := shp_strs hch
  have sh0 := shp_strs (ss := []) (fun _ h => nomatch h)
  have eqE : ∀ P', P' (.bl (decide (rows = []))) → OpD (⟨K, C, noG⟩ : Bx) (rEqD K) (.lst (rows.map .str)) (.lst []) P' := fun P' p' => by
    refine od_eqD sh sh0 ?_
    have := eqv_strs rows []
    rw [show (D.lst ([] : List D)) = D.lst (([] : List Str).map .str) from rfl, this]; exact p'
  have neE : ∀ P', P' (.bl (!decide (rows = []))) → OpD (⟨K, C, noG⟩ : Bx) (rNeD K) (.lst (rows.map .str)) (.lst []) P' := fun P' p' => by
    refine od_neD sh sh0 ?_
    have := eqv_strs rows []
    rw [show (D.lst ([] : List D)) = D.lst (([] : List Str).map .str) from rfl, this]; exact p'
  rcases bwL_cases hk with ⟨rfl, rfl⟩ | ⟨rfl, rfl⟩ | ⟨rfl, rfl⟩ | ⟨rfl, rfl⟩ | ⟨rfl, rfl⟩ | ⟨rfl, rfl⟩ | ⟨rfl, rfl⟩ | ⟨rfl, rfl⟩ | ⟨rfl, rfl⟩ | ⟨rfl, rfl⟩ | ⟨rfl, rfl⟩
  · obtain ⟨r0, r1, rfl⟩ := len2 hl
    have h1 := hr r1 (by simp)
    have h1' : r1.length ≤ 90000 := by omega
    walk_at "w"
    refine neE _ ?_
    walk_at "w"
    by_cases c : rows = []
    · have e : (!decide (rows = [])) = false := by rw [decide_eq_true c]; rfl
      walk_at "w"
      by_cases c1 : r1 = ""
      · have e1 : decide (r1 = Str.ofString "") = true := decide_eq_true c1
        walk_at "w"
        exact PtoD p (by show (if rows = [] then _ else _) = _; rw [if_pos c, if_pos c1])
      · have e1 : decide (r1 = Str.ofString "") = false := decide_eq_false c1
        walk_at "w"
        exact PtoD p (by show (if rows = [] then _ else _) = _; rw [if_pos c, if_neg c1])
    · have e : (!decide (rows = [])) = true := by rw [decide_eq_false c]; rfl
      walk_at "w"
      exact PtoD p (by show (if rows = [] then _ else _) = _; rw [if_neg c])
  · obtain ⟨r0, rfl⟩ := len1' hl
    have h0 := hr r0 (by simp)
    by_cases c : r0 = numS ((rows.length : Nat) : Int)
    · have e1 : (!decide (r0 = Str.ofString (toString (((rows.map D.str).length : Nat) : Int)))) = false := by
        rw [List.length_map, decide_eq_true (show r0 = Str.ofString (toString ((rows.length : Nat) : Int)) from c)]; rfl
      walk_at "w"
      refine eqE _ ?_
      walk_at "w"
      by_cases c2 : rows = []
      · have e2 : decide (rows = []) = true := decide_eq_true c2
        walk_at "w"
        exact PtoD p (by show (if _ ∧ ¬ rows = [] then _ else _) = _; rw [if_neg (fun z => z.2 c2)])
      · have e2 : decide (rows = []) = false := decide_eq_false c2
        walk_at "w"
        exact PtoD p (by show (if r0 = numS (rows.length : Nat) ∧ ¬ rows = [] then _ else _) = _; rw [if_pos ⟨c, c2⟩])
    · have e1 : (!decide (r0 = Str.ofString (toString (((rows.map D.str).length : Nat) : Int)))) = true := by
        rw [List.length_map, decide_eq_false (show ¬ r0 = Str.ofString (toString ((rows.length : Nat) : Int)) from c)]; rfl
      walk_at "w"
      exact PtoD p (by show (if r0 = numS (rows.length : Nat) ∧ ¬ rows = [] then _ else _) = _; rw [if_neg (fun z => c z.1)])
  · obtain ⟨r0, r1, rfl⟩ := len2 hl
    have h0 := hr r0 (by simp)
    by_cases c : r1 = numS ((rows.length : Nat) : Int)
    · have e1 : (!decide (r1 = Str.ofString (toString (((rows.map D.str).length : Nat) : Int)))) = false := by
        rw [List.length_map, decide_eq_true (show r1 = Str.ofString (toString ((rows.length : Nat) : Int)) from c)]; rfl
      walk_at "w"
      refine eqE _ ?_
      walk_at "w"
      by_cases c2 : rows = []
      · have e2 : decide (rows = []) = true := decide_eq_true c2
        walk_at "w"
        exact PtoD p (by show (if _ ∧ ¬ rows = [] then _ else _) = _; rw [if_neg (fun z => z.2 c2)])
      · have e2 : decide (rows = []) = false := decide_eq_false c2
        walk_at "w"
        exact PtoD p (by show (if r1 = numS (rows.length : Nat) ∧ ¬ rows = [] then _ else _) = _; rw [if_pos ⟨c, c2⟩])
    · have e1 : (!decide (r1 = Str.ofString (toString (((rows.map D.str).length : Nat) : Int)))) = true := by
        rw [List.length_map, decide_eq_false (show ¬ r1 = Str.ofString (toString ((rows.length : Nat) : Int)) from c)]; rfl
      walk_at "w"
      exact PtoD p (by show (if r1 = numS (rows.length : Nat) ∧ ¬ rows = [] then _ else _) = _; rw [if_neg (fun z => c z.1)])
  · obtain ⟨r0, r1, rfl⟩ := len2 hl
    have h0 := hr r0 (by simp)
    by_cases c : r1 = numS ((rows.length : Nat) : Int)
    · have e1 : (!decide (r1 = Str.ofString (toString (((rows.map D.str).length : Nat) : Int)))) = false := by
        rw [List.length_map, decide_eq_true (show r1 = Str.ofString (toString ((rows.length : Nat) : Int)) from c)]; rfl
      walk_at "w"
      refine eqE _ ?_
      walk_at "w"
      by_cases c2 : rows = []
      · have e2 : decide (rows = []) = true := decide_eq_true c2
        walk_at "w"
        exact PtoD p (by show (if _ ∧ ¬ rows = [] then _ else _) = _; rw [if_neg (fun z => z.2 c2)])
      · have e2 : decide (rows = []) = false := decide_eq_false c2
        walk_at "w"
        exact PtoD p (by show (if r1 = numS (rows.length : Nat) ∧ ¬ rows = [] then _ else _) = _; rw [if_pos ⟨c, c2⟩])
    · have e1 : (!decide (r1 = Str.ofString (toString (((rows.map D.str).length : Nat) : Int)))) = true := by
        rw [List.length_map, decide_eq_false (show ¬ r1 = Str.ofString (toString ((rows.length : Nat) : Int)) from c)]; rfl
      walk_at "w"
      exact PtoD p (by show (if r1 = numS (rows.length : Nat) ∧ ¬ rows = [] then _ else _) = _; rw [if_neg (fun z => c z.1)])
  · obtain ⟨r0, rfl⟩ := len1' hl
    have h0 := hr r0 (by simp)
    walk_at "w"
    refine neE _ ?_
    walk_at "w"
    by_cases c : rows = []
    · have e : (!decide (rows = [])) = false := by rw [decide_eq_true c]; rfl
      walk_at "w"
      exact PtoD p (by show (if rows = [] then _ else _) = _; rw [if_pos c])
    · have e : (!decide (rows = [])) = true := by rw [decide_eq_false c]; rfl
      walk_at "w"
      exact PtoD p (by show (if rows = [] then _ else _) = _; rw [if_neg c])
  · obtain ⟨r0, r1, rfl⟩ := len2 hl
    have h0 := hr r0 (by simp)
    walk_at "w"
    refine neE _ ?_
    walk_at "w"
    by_cases c : rows = []
    · have e : (!decide (rows = [])) = false := by rw [decide_eq_true c]; rfl
      walk_at "w"
      exact PtoD p (by show (if rows = [] then _ else _) = _; rw [if_pos c])
    · have e : (!decide (rows = [])) = true := by rw [decide_eq_false c]; rfl
      walk_at "w"
      exact PtoD p (by show (if rows = [] then _ else _) = _; rw [if_neg c])
  · obtain ⟨r0, rfl⟩ := len1' hl
    have h0 := hr r0 (by simp)
    walk_at "w"
    refine neE _ ?_
    walk_at "w"
    by_cases c : rows = []
    · have e : (!decide (rows = [])) = false := by rw [decide_eq_true c]; rfl
      walk_at "w"
      exact PtoD p (by show (if rows = [] then _ else _) = _; rw [if_pos c])
    · have e : (!decide (rows = [])) = true := by rw [decide_eq_false c]; rfl
      walk_at "w"
      exact PtoD p (by show (if rows = [] then _ else _) = _; rw [if_neg c])
  · obtain ⟨r0, rfl⟩ := len1' hl
    have h0 := hr r0 (by simp)
    walk_at "w"
    refine neE _ ?_
    walk_at "w"
    by_cases c : rows = []
    · have e : (!decide (rows = [])) = false := by rw [decide_eq_true c]; rfl
      walk_at "w"
      exact PtoD p (by show (if rows = [] then _ else _) = _; rw [if_pos c])
    · have e : (!decide (rows = [])) = true := by rw [decide_eq_false c]; rfl
      walk_at "w"
      exact PtoD p (by show (if rows = [] then _ else _) = _; rw [if_neg c])
  · obtain ⟨r0, rfl⟩ := len1' hl
    have h0 := hr r0 (by simp)
    walk_at "w"
    refine neE _ ?_
    walk_at "w"
    by_cases c : rows = []
    · have e : (!decide (rows = [])) = false := by rw [decide_eq_true c]; rfl
      walk_at "w"
      exact PtoD p (by show (if rows = [] then _ else _) = _; rw [if_pos c])
    · have e : (!decide (rows = [])) = true := by rw [decide_eq_false c]; rfl
      walk_at "w"
      exact PtoD p (by show (if rows = [] then _ else _) = _; rw [if_neg c])
  · obtain ⟨r0, rfl⟩ := len1' hl
    have h0 := hr r0 (by simp)
    walk_at "w"
    refine neE _ ?_
    walk_at "w"
    by_cases c : rows = []
    · have e : (!decide (rows = [])) = false := by rw [decide_eq_true c]; rfl
      walk_at "w"
      exact PtoD p (by show (if rows = [] then _ else _) = _; rw [if_pos c])
    · have e : (!decide (rows = [])) = true := by rw [decide_eq_false c]; rfl
      walk_at "w"
      exact PtoD p (by show (if rows = [] then _ else _) = _; rw [if_neg c])
  · obtain rfl : rs = [] := List.length_eq_zero_iff.mp hl
    walk_at "w"
    refine neE _ ?_
    walk_at "w"
    by_cases c : rows = []
    · have e : (!decide (rows = [])) = false := by rw [decide_eq_true c]; rfl
      walk_at "w"
      exact PtoD p (by show (if rows = [] then _ else _) = _; rw [if_pos c])
    · have e : (!decide (rows = [])) = true := by rw [decide_eq_false c]; rfl
      walk_at "w"
      exact PtoD p (by show (if rows = [] then _ else _) = _; rw [if_neg c])
end
end
section
open PySem PySem.Spec PyProof.Rows L2
open Evl (Ex ex_rd ex_l ex_t)
open CwR
set_option autoImplicit false
open Bod (NmOk NuOk TtOk TxOk)
/-! pure: what the law's reader makes of lines is a letter of these lines, and the other way round. -/
def txR (rows : List Str) : Option Str := if rows = [] then none else some (Txt.join "\n" rows)
def linesW (ws rs : List Str) : List Str := List.zipWith (fun w r => w ++ (": " : Str) ++ r) ws rs
theorem lit_app {a b : Str} (r : Str) (h : a ++ (": " : Str) = b) : a ++ (": " : Str) ++ r = b ++ r := by rw [h]
theorem rests_some {hs ws rs : List Str} (h : restsL hs ws = some rs) : hs = linesW ws rs ∧ rs.length = ws.length := by
  unfold restsL at h
  split at h
  · rename_i c
    cases h
    obtain ⟨c1, c2⟩ := c
    refine ⟨?_, by rw [List.length_zipWith, c1, Nat.min_self]⟩
    revert c1 c2
    intro c1 c2
    induction hs generalizing ws with
    | nil => cases ws with
      | nil => rfl
      | cons _ _ => cases c1
    | cons a r ih =>
      cases ws with
      | nil => cases c1
      | cons w t =>
        have c2 : (hasP a w && (List.zipWith hasP r t).all id) = true := c2
        rw [Bool.and_eq_true] at c2
        have := ih (ws := t) (by simpa using c1) c2.2
        show a :: r = (w ++ ": " ++ restW a w) :: linesW t (List.zipWith restW r t)
        rw [← this, ← hasP_eq c2.1]
  · cases h
theorem rests_of : ∀ {ws rs : List Str}, rs.length = ws.length → restsL (linesW ws rs) ws = some rs
  | [], [], _ => rfl
  | [], _ :: _, h => by cases h
  | _ :: _, [], h => by cases h
  | w :: ws, r :: rs, h => by
    have ih := rests_of (ws := ws) (rs := rs) (by simpa using h)
    unfold restsL at ih ⊢
    split at ih
    · rename_i c
      have ih := Option.some.inj ih
      rw [if_pos]
      · show some (restW (w ++ ": " ++ r) w :: List.zipWith restW (linesW ws rs) ws) = _
        rw [ih, (hasP_of w r).2]
      · refine ⟨by show (linesW ws rs).length + 1 = ws.length + 1; rw [c.1], ?_⟩
        show (hasP (w ++ ": " ++ r) w && (List.zipWith hasP (linesW ws rs) ws).all id) = true
        rw [(hasP_of w r).1, c.2]; rfl
    · cases ih
theorem join_split {x : Str} : Txt.join ", " (Txt.split x ", ") = x := by
  refine TL.ext_tl ?_
  rw [TL.join_eq, TL.tl_join, TL.split_spl x ", " (fun z => by cases z) (TL.kind_ok (by decide +kernel))]
  show TL.joinL [44, 32] (TL.spl [44, 32] 0 [] (TL.tl x)) = TL.tl x
  have key : ∀ (n : Nat) (l acc : List Nat), l.length ≤ n → TL.spl [44, 32] 0 acc l ≠ [] ∧ TL.joinL [44, 32] (TL.spl [44, 32] 0 acc l) = acc ++ l := by
    intro n
    induction n with
    | zero =>
      intro l acc h
      have : l = [] := List.length_eq_zero_iff.mp (by omega)
      subst this
      rw [TL.spl_nil]
      exact ⟨by simp, by simp [TL.joinL]⟩
    | succ n ih =>
      intro l acc h
      cases l with
      | nil => rw [TL.spl_nil]; exact ⟨by simp, by simp [TL.joinL]⟩
      | cons c r =>
        by_cases hp : TL.pre [44, 32] (c :: r) = true
        · rw [TL.spl_hit hp]
          have hc : (c :: r).take 2 = [44, 32] := by
            have : ((c :: r).take [44, 32].length == [44, 32]) = true := hp
            exact eq_of_beq this
          cases r with
          | nil => simp at hc
          | cons d t =>
            have hcd : c = 44 ∧ d = 32 := by simpa using hc
            obtain ⟨rfl, rfl⟩ := hcd
            have e : TL.spl [44, 32] ([44, 32].length - 1) [] (32 :: t) = TL.spl [44, 32] 0 [] t := rfl
            rw [e]
            obtain ⟨i1, i2⟩ := ih t [] (by simp only [List.length_cons] at h; omega)
            refine ⟨by simp, ?_⟩
            cases es : TL.spl [44, 32] 0 [] t with
            | nil => exact absurd es i1
            | cons p q =>
              rw [es] at i2
              show acc ++ ([44, 32] ++ TL.joinL [44, 32] (p :: q)) = _
              rw [i2]; rfl
        · rw [TL.spl_miss (by simpa using hp)]
          obtain ⟨i1, i2⟩ := ih r (acc ++ [c]) (by simp only [List.length_cons] at h; omega)
          exact ⟨i1, by rw [i2, List.append_assoc]; rfl⟩
  exact (key _ (TL.tl x) [] (Nat.le_refl _)).2
end
section
open PySem PySem.Spec PyProof.Rows L2
open Evl (Ex ex_rd ex_l ex_t)
open CwR
set_option autoImplicit false
open Bod (NmOk NuOk TtOk TxOk)
theorem joinL_count : ∀ (ls : List (List Nat)), (∀ l ∈ ls, 10 ∉ l) → ls ≠ [] → (TL.joinL [10] ls).count 10 + 1 = ls.length
  | [], _, h => absurd rfl h
  | [l], h, _ => by
    show l.count 10 + 1 = 1
    rw [List.count_eq_zero.mpr (h l List.mem_cons_self)]
  | l :: m :: r, h, _ => by
    have ih := joinL_count (m :: r) (fun x hx => h x (List.mem_cons_of_mem _ hx)) (by simp)
    show (l ++ ([10] ++ TL.joinL [10] (m :: r))).count 10 + 1 = _
    rw [List.count_append, List.count_append, List.count_eq_zero.mpr (h l List.mem_cons_self)]
    simp only [List.length_cons] at ih ⊢
    have : List.count 10 [10] = 1 := rfl
    omega
theorem count_rows {rows : List Str} (h : ∀ r ∈ rows, 10 ∉ TL.tl r) (hn : rows ≠ []) : Txt.count (Txt.join "\n" rows) "\n" + 1 = ((rows.length : Nat) : Int) := by
  rw [count_nl, TL.join_eq, TL.tl_join]
  have := joinL_count (rows.map TL.tl) (fun l hl => by
    obtain ⟨r, hr, rfl⟩ := List.mem_map.mp hl
    exact h r hr) (fun z => hn (List.map_eq_nil_iff.mp z))
  rw [List.length_map] at this
  have e : TL.tl (Str.ofString "\n") = [10] := rfl
  rw [e]
  omega
theorem split_nlr {rows : List Str} (h : ∀ r ∈ rows, 10 ∉ TL.tl r) (hn : rows ≠ []) : Txt.split (Txt.join "\n" rows) "\n" = rows :=
  TL.split_join (y := "\n") (s := 10) (S := []) rfl (by decide +kernel) hn h
theorem linesS_rows {rows : List Str} (h : ∀ r ∈ rows, 10 ∉ TL.tl r) (hn : rows ≠ []) : linesS (Txt.join "\n" rows) = "Lines: " ++ numS ((rows.length : Nat) : Int) := by
  unfold linesS
  rw [count_rows h hn]
theorem txR_some {rows : List Str} (h : ¬ rows = []) : txR rows = some (Txt.join "\n" rows) := by unfold txR; rw [if_neg h]
theorem txR_none {rows : List Str} (h : rows = []) : txR rows = none := by unfold txR; rw [if_pos h]
theorem refWD_ok {w : Str} (h : isRefD (refWD w) = true) : ∃ x n, refWD w = refD x n ∧ NmOk x ∧ NuOk n ∧ w = refS x n := by
  have h : (isNameD (.str (pairW w).1) && isNumD (.int (pairW w).2)) = true := h
  rw [Bool.and_eq_true] at h
  exact ⟨(pairW w).1, (pairW w).2, rfl, h.1, h.2, pairW_back rfl h.2⟩
theorem lW1 (w r : Str) : linesW [w] [r] = [w ++ (": " : Str) ++ r] := rfl
theorem lW2 (w v r s : Str) : linesW [w, v] [r, s] = [w ++ (": " : Str) ++ r, v ++ (": " : Str) ++ s] := rfl
theorem wT (r : Str) : ("Title" : Str) ++ (": " : Str) ++ r = "Title: " ++ r := lit_app r rfl
theorem wM (r : Str) : ("Members" : Str) ++ (": " : Str) ++ r = "Members: " ++ r := lit_app r rfl
theorem wL (r : Str) : ("Lines" : Str) ++ (": " : Str) ++ r = "Lines: " ++ r := lit_app r rfl
theorem wR (r : Str) : ("Ref" : Str) ++ (": " : Str) ++ r = "Ref: " ++ r := lit_app r rfl
theorem wW (r : Str) : ("Word" : Str) ++ (": " : Str) ++ r = "Word: " ++ r := lit_app r rfl
theorem wN (r : Str) : ("Name" : Str) ++ (": " : Str) ++ r = "Name: " ++ r := lit_app r rfl
theorem map_strD (ms : List Str) : (ms.map D.str).map strD = ms := by rw [List.map_map]; exact List.map_id _
theorem rb_ok {k : Str} {ws rs rows : List Str} (hk : bwL k = some ws) (hl : rs.length = ws.length) (hr : ∀ r ∈ rows, 10 ∉ TL.tl r) (h : isBodyD (rbD k rs rows) = true) :
    ∃ b : Bod, rbD k rs rows = b.d ∧ b.ok ∧ b.kind = k ∧ b.lines = linesW ws rs ∧ b.text = txR rows := by
  rcases bwL_cases hk with ⟨rfl, rfl⟩ | ⟨rfl, rfl⟩ | ⟨rfl, rfl⟩ | ⟨rfl, rfl⟩ | ⟨rfl, rfl⟩ | ⟨rfl, rfl⟩ | ⟨rfl, rfl⟩ | ⟨rfl, rfl⟩ | ⟨rfl, rfl⟩ | ⟨rfl, rfl⟩ | ⟨rfl, rfl⟩
  · obtain ⟨r0, r1, rfl⟩ := len2 hl
    by_cases c : rows = []
    · have e : rbD "found" [r0, r1] rows = .tup [.str "found", .str r0, .tup (if r1 = "" then [] else (Txt.split r1 ", ").map .str)] := by show (if rows = [] then _ else _) = _; rw [if_pos c]
      rw [e] at h ⊢
      obtain ⟨t, m, e2, ht, hm⟩ := isBodyD_found h
      cases e2
      by_cases c1 : r1 = ""
      · subst c1
        refine ⟨.found r0 [], rfl, ⟨ht, Nat.zero_le _, (fun _ h => nomatch h), rfl⟩, rfl, ?_, (txR_none c).symm⟩
        rw [lW2, wT, wM]; rfl
      · rw [if_neg c1] at hm ⊢
        obtain ⟨es, e3, h1, h2, h3⟩ := isMembersD_eq hm
        cases e3
        rw [map_strD] at h3
        refine ⟨.found r0 (Txt.split r1 ", "), rfl, ⟨ht, by simpa using h1, fun m hm => h2 (.str m) (List.mem_map_of_mem hm), h3⟩, rfl, ?_, (txR_none c).symm⟩
        rw [lW2, wT, wM]
        show ["Title: " ++ r0, "Members: " ++ Txt.join ", " (Txt.split r1 ", ")] = _
        rw [join_split]
    · have e : rbD "found" [r0, r1] rows = .non := by show (if rows = [] then _ else _) = _; rw [if_neg c]
      rw [e] at h; cases h
  · obtain ⟨r0, rfl⟩ := len1' hl
    by_cases c : r0 = numS (rows.length : Nat) ∧ ¬ rows = []
    · have e : rbD "say" [r0] rows = .tup [.str "say", .str (Txt.join "\n" rows)] := by show (if r0 = numS (rows.length : Nat) ∧ ¬ rows = [] then _ else _) = _; rw [if_pos c]
      rw [e] at h ⊢
      refine ⟨.say (Txt.join "\n" rows), rfl, h, rfl, ?_, (txR_some c.2).symm⟩
      rw [lW1, wL, c.1, ← linesS_rows hr c.2]; rfl
    · have e : rbD "say" [r0] rows = .non := by show (if r0 = numS (rows.length : Nat) ∧ ¬ rows = [] then _ else _) = _; rw [if_neg c]
      rw [e] at h; cases h
  · obtain ⟨r0, r1, rfl⟩ := len2 hl
    by_cases c : r1 = numS (rows.length : Nat) ∧ ¬ rows = []
    · have e : rbD "reply" [r0, r1] rows = .tup [.str "reply", refWD r0, .str (Txt.join "\n" rows)] := by show (if r1 = numS (rows.length : Nat) ∧ ¬ rows = [] then _ else _) = _; rw [if_pos c]
      rw [e] at h ⊢
      have h : (isRefD (refWD r0) && isTextD (.str (Txt.join "\n" rows))) = true := h
      rw [Bool.and_eq_true] at h
      obtain ⟨x, n, ex, q1, q2, q3⟩ := refWD_ok h.1
      rw [ex]
      refine ⟨.reply x n (Txt.join "\n" rows), rfl, ⟨⟨q1, q2⟩, h.2⟩, rfl, ?_, (txR_some c.2).symm⟩
      rw [lW2, wR, wL, c.1, ← linesS_rows hr c.2, q3]; rfl
    · have e : rbD "reply" [r0, r1] rows = .non := by show (if r1 = numS (rows.length : Nat) ∧ ¬ rows = [] then _ else _) = _; rw [if_neg c]
      rw [e] at h; cases h
  · obtain ⟨r0, r1, rfl⟩ := len2 hl
    by_cases c : r1 = numS (rows.length : Nat) ∧ ¬ rows = []
    · have e : rbD "edit" [r0, r1] rows = .tup [.str "edit", refWD r0, .str (Txt.join "\n" rows)] := by show (if r1 = numS (rows.length : Nat) ∧ ¬ rows = [] then _ else _) = _; rw [if_pos c]
      rw [e] at h ⊢
      have h : (isRefD (refWD r0) && isTextD (.str (Txt.join "\n" rows))) = true := h
      rw [Bool.and_eq_true] at h
      obtain ⟨x, n, ex, q1, q2, q3⟩ := refWD_ok h.1
      rw [ex]
      refine ⟨.edit x n (Txt.join "\n" rows), rfl, ⟨⟨q1, q2⟩, h.2⟩, rfl, ?_, (txR_some c.2).symm⟩
      rw [lW2, wR, wL, c.1, ← linesS_rows hr c.2, q3]; rfl
    · have e : rbD "edit" [r0, r1] rows = .non := by show (if r1 = numS (rows.length : Nat) ∧ ¬ rows = [] then _ else _) = _; rw [if_neg c]
      rw [e] at h; cases h
  · obtain ⟨r0, rfl⟩ := len1' hl
    by_cases c : rows = []
    · have e : rbD "recall" [r0] rows = .tup [.str "recall", refWD r0] := by show (if rows = [] then _ else _) = _; rw [if_pos c]
      rw [e] at h ⊢
      obtain ⟨x, n, ex, q1, q2, q3⟩ := refWD_ok h
      rw [ex]
      refine ⟨.recall x n, rfl, ⟨q1, q2⟩, rfl, ?_, (txR_none c).symm⟩
      rw [lW1, wR, q3]; rfl
    · have e : rbD "recall" [r0] rows = .non := by show (if rows = [] then _ else _) = _; rw [if_neg c]
      rw [e] at h; cases h
  · obtain ⟨r0, r1, rfl⟩ := len2 hl
    by_cases c : rows = []
    · have e : rbD "mark" [r0, r1] rows = .tup [.str "mark", refWD r0, .str r1] := by show (if rows = [] then _ else _) = _; rw [if_pos c]
      rw [e] at h ⊢
      have h : (isRefD (refWD r0) && isNameD (.str r1)) = true := h
      rw [Bool.and_eq_true] at h
      obtain ⟨x, n, ex, q1, q2, q3⟩ := refWD_ok h.1
      rw [ex]
      refine ⟨.mark x n r1, rfl, ⟨⟨q1, q2⟩, h.2⟩, rfl, ?_, (txR_none c).symm⟩
      rw [lW2, wR, wW, q3]; rfl
    · have e : rbD "mark" [r0, r1] rows = .non := by show (if rows = [] then _ else _) = _; rw [if_neg c]
      rw [e] at h; cases h
  · obtain ⟨r0, rfl⟩ := len1' hl
    by_cases c : rows = []
    · have e : rbD "title" [r0] rows = .tup [.str "title", .str r0] := by show (if rows = [] then _ else _) = _; rw [if_pos c]
      rw [e] at h ⊢
      exact ⟨.title r0, rfl, h, rfl, by rw [lW1, wT]; rfl, (txR_none c).symm⟩
    · have e : rbD "title" [r0] rows = .non := by show (if rows = [] then _ else _) = _; rw [if_neg c]
      rw [e] at h; cases h
  · obtain ⟨r0, rfl⟩ := len1' hl
    by_cases c : rows = []
    · have e : rbD "add" [r0] rows = .tup [.str "add", .str r0] := by show (if rows = [] then _ else _) = _; rw [if_pos c]
      rw [e] at h ⊢
      exact ⟨.add r0, rfl, h, rfl, by rw [lW1, wN]; rfl, (txR_none c).symm⟩
    · have e : rbD "add" [r0] rows = .non := by show (if rows = [] then _ else _) = _; rw [if_neg c]
      rw [e] at h; cases h
  · obtain ⟨r0, rfl⟩ := len1' hl
    by_cases c : rows = []
    · have e : rbD "cut" [r0] rows = .tup [.str "cut", .str r0] := by show (if rows = [] then _ else _) = _; rw [if_pos c]
      rw [e] at h ⊢
      exact ⟨.cut r0, rfl, h, rfl, by rw [lW1, wN]; rfl, (txR_none c).symm⟩
    · have e : rbD "cut" [r0] rows = .non := by show (if rows = [] then _ else _) = _; rw [if_neg c]
      rw [e] at h; cases h
  · obtain ⟨r0, rfl⟩ := len1' hl
    by_cases c : rows = []
    · have e : rbD "hand" [r0] rows = .tup [.str "hand", .str r0] := by show (if rows = [] then _ else _) = _; rw [if_pos c]
      rw [e] at h ⊢
      exact ⟨.hand r0, rfl, h, rfl, by rw [lW1, wN]; rfl, (txR_none c).symm⟩
    · have e : rbD "hand" [r0] rows = .non := by show (if rows = [] then _ else _) = _; rw [if_neg c]
      rw [e] at h; cases h
  · obtain rfl : rs = [] := List.length_eq_zero_iff.mp hl
    by_cases c : rows = []
    · have e : rbD "seen" [] rows = .tup [.str "seen"] := by show (if rows = [] then _ else _) = _; rw [if_pos c]
      rw [e] at h ⊢
      exact ⟨.seen, rfl, trivial, rfl, rfl, (txR_none c).symm⟩
    · have e : rbD "seen" [] rows = .non := by show (if rows = [] then _ else _) = _; rw [if_neg c]
      rw [e] at h; cases h
end
section
open PySem PySem.Spec PyProof.Rows L2
open Evl (Ex ex_rd ex_l ex_t)
open CwR
set_option autoImplicit false
open Bod (NmOk NuOk TtOk TxOk)
theorem rb_back {b : Bod} (hb : b.ok) {rows : List Str} (hr : ∀ r ∈ rows, 10 ∉ TL.tl r) (ht : b.text = txR rows) :
    ∃ ws rs, bwL b.kind = some ws ∧ rs.length = ws.length ∧ b.lines = linesW ws rs ∧ rbD b.kind rs rows = b.d := by
  have hn : b.text = none → rows = [] := fun h => by
    rw [h] at ht
    unfold txR at ht
    split at ht
    · assumption
    · cases ht
  have hs : ∀ t, b.text = some t → ¬ rows = [] ∧ t = Txt.join "\n" rows := fun t h => by
    rw [h] at ht
    unfold txR at ht
    split at ht
    · cases ht
    · rename_i c; cases ht; exact ⟨c, rfl⟩
  cases b with
  | found t ms =>
    have c := hn rfl
    refine ⟨["Title", "Members"], [t, Txt.join ", " ms], rfl, rfl, by rw [lW2, wT, wM]; rfl, ?_⟩
    show (if rows = [] then _ else _) = _
    rw [if_pos c]
    show D.tup [.str "found", .str t, .tup (if Txt.join ", " ms = "" then [] else (Txt.split (Txt.join ", " ms) ", ").map .str)] = _
    by_cases hm : ms = []
    · subst hm; rfl
    · rw [if_neg (join_ne hm hb.2.2.1), split_names hm hb.2.2.1]
  | say t =>
    obtain ⟨c, rfl⟩ := hs t rfl
    refine ⟨["Lines"], [numS ((rows.length : Nat) : Int)], rfl, rfl, by rw [lW1, wL, ← linesS_rows hr c]; rfl, ?_⟩
    show (if numS (rows.length : Nat) = numS (rows.length : Nat) ∧ ¬ rows = [] then _ else _) = _
    rw [if_pos ⟨rfl, c⟩]
  | reply x n t =>
    obtain ⟨c, rfl⟩ := hs t rfl
    refine ⟨["Ref", "Lines"], [refS x n, numS ((rows.length : Nat) : Int)], rfl, rfl, by rw [lW2, wR, wL, ← linesS_rows hr c]; rfl, ?_⟩
    show (if numS (rows.length : Nat) = numS (rows.length : Nat) ∧ ¬ rows = [] then _ else _) = _
    rw [if_pos ⟨rfl, c⟩]
    show D.tup [.str "reply", refD (pairW (refS x n)).1 (pairW (refS x n)).2, _] = _
    rw [pairW_refS hb.1.1 hb.1.2]
  | edit x n t =>
    obtain ⟨c, rfl⟩ := hs t rfl
    refine ⟨["Ref", "Lines"], [refS x n, numS ((rows.length : Nat) : Int)], rfl, rfl, by rw [lW2, wR, wL, ← linesS_rows hr c]; rfl, ?_⟩
    show (if numS (rows.length : Nat) = numS (rows.length : Nat) ∧ ¬ rows = [] then _ else _) = _
    rw [if_pos ⟨rfl, c⟩]
    show D.tup [.str "edit", refD (pairW (refS x n)).1 (pairW (refS x n)).2, _] = _
    rw [pairW_refS hb.1.1 hb.1.2]
  | recall x n =>
    have c := hn rfl
    refine ⟨["Ref"], [refS x n], rfl, rfl, by rw [lW1, wR]; rfl, ?_⟩
    show (if rows = [] then _ else _) = _
    rw [if_pos c]
    show D.tup [.str "recall", refD (pairW (refS x n)).1 (pairW (refS x n)).2] = _
    rw [pairW_refS hb.1 hb.2]
  | mark x n y =>
    have c := hn rfl
    refine ⟨["Ref", "Word"], [refS x n, y], rfl, rfl, by rw [lW2, wR, wW]; rfl, ?_⟩
    show (if rows = [] then _ else _) = _
    rw [if_pos c]
    show D.tup [.str "mark", refD (pairW (refS x n)).1 (pairW (refS x n)).2, _] = _
    rw [pairW_refS hb.1.1 hb.1.2]
  | title t =>
    have c := hn rfl
    refine ⟨["Title"], [t], rfl, rfl, by rw [lW1, wT]; rfl, ?_⟩
    show (if rows = [] then _ else _) = _
    rw [if_pos c]
  | add t =>
    have c := hn rfl
    refine ⟨["Name"], [t], rfl, rfl, by rw [lW1, wN]; rfl, ?_⟩
    show (if rows = [] then _ else _) = _
    rw [if_pos c]
  | cut t =>
    have c := hn rfl
    refine ⟨["Name"], [t], rfl, rfl, by rw [lW1, wN]; rfl, ?_⟩
    show (if rows = [] then _ else _) = _
    rw [if_pos c]
  | hand t =>
    have c := hn rfl
    refine ⟨["Name"], [t], rfl, rfl, by rw [lW1, wN]; rfl, ?_⟩
    show (if rows = [] then _ else _) = _
    rw [if_pos c]
  | seen =>
    have c := hn rfl
    refine ⟨[], [], rfl, rfl, rfl, ?_⟩
    show (if rows = [] then _ else _) = _
    rw [if_pos c]
abbrev four : List Str := ["From", "Stamp", "Seen", "Kind"]
theorem wF (r : Str) : ("From" : Str) ++ (": " : Str) ++ r = "From: " ++ r := lit_app r rfl
theorem wS (r : Str) : ("Stamp" : Str) ++ (": " : Str) ++ r = "Stamp: " ++ r := lit_app r rfl
theorem wE (r : Str) : ("Seen" : Str) ++ (": " : Str) ++ r = "Seen: " ++ r := lit_app r rfl
theorem wK (r : Str) : ("Kind" : Str) ++ (": " : Str) ++ r = "Kind: " ++ r := lit_app r rfl
theorem lW4 (r0 r1 r2 k : Str) (ws rs : List Str) : linesW (four ++ ws) ([r0, r1, r2, k] ++ rs) = ["From: " ++ r0, "Stamp: " ++ r1, "Seen: " ++ r2, "Kind: " ++ k] ++ linesW ws rs := by
  show [("From" : Str) ++ (": " : Str) ++ r0, ("Stamp" : Str) ++ (": " : Str) ++ r1, ("Seen" : Str) ++ (": " : Str) ++ r2, ("Kind" : Str) ++ (": " : Str) ++ k] ++ linesW ws rs = _
  rw [wF, wS, wE, wK]
/-- the law's value of rests -/
def valW (k : Str) (r0 r1 r2 : Str) (rs rows : List Str) : D :=
  .tup [.str (pairW r0).1, .int (pairW r0).2, .int (numW r1), .tup ((Txt.split r2 ", ").map refWD), rbD k rs rows]
theorem acc_shape {heads rows : List Str} (hr : ∀ r ∈ rows, 10 ∉ TL.tl r) {L : Ltr} (h : Acc heads (txR rows) L) :
    ∃ ws rs, bwL L.b.kind = some ws ∧ rs.length = ws.length ∧ heads = linesW (four ++ ws) ([refS L.a L.n, numS L.s, seenS L.es, L.b.kind] ++ rs) ∧ valW L.b.kind (refS L.a L.n) (numS L.s) (seenS L.es) rs rows = L.d := by
  obtain ⟨ok, eh, et⟩ := h
  obtain ⟨ws, rs, h1, h2, h3, h4⟩ := rb_back ok.b hr et
  refine ⟨ws, rs, h1, h2, ?_, ?_⟩
  · rw [lW4, ← h3, ← eh]; rfl
  · have hne : L.es ≠ [] := fun z => by have := ok.me; rw [z] at this; cases this
    unfold valW
    rw [h4, pairW_refS ok.a ok.n, numW_numS ok.s, split_seen hne ok.es, List.map_map]
    have : L.es.map (refWD ∘ fun p => refS p.1 p.2) = L.es.map fun p => refD p.1 p.2 := by
      refine List.map_congr_left fun p hp => ?_
      show refD (pairW (refS p.1 p.2)).1 (pairW (refS p.1 p.2)).2 = _
      rw [pairW_refS (ok.es p hp).1 (ok.es p hp).2]
    rw [this]
theorem acc_of {heads rows : List Str} (hr : ∀ r ∈ rows, 10 ∉ TL.tl r) {k r0 r1 r2 : Str} {ws rs : List Str} (hk : bwL k = some ws) (hl : rs.length = ws.length) (hh : heads = linesW (four ++ ws) ([r0, r1, r2, k] ++ rs))
    (hv : isLetterD (valW k r0 r1 r2 rs rows) = true) : ∃ L, valW k r0 r1 r2 rs rows = L.d ∧ Acc heads (txR rows) L := by
  obtain ⟨L, eL, ok⟩ := letter_eq hv
  refine ⟨L, eL, ok, ?_, ?_⟩
  all_goals
    have q1 : D.str (pairW r0).1 = .str L.a := congrArg (fun d => (tupD d).getD 0 .non) eL
    have q2 : D.int (pairW r0).2 = .int L.n := congrArg (fun d => (tupD d).getD 1 .non) eL
    have q3 : D.int (numW r1) = .int L.s := congrArg (fun d => (tupD d).getD 2 .non) eL
    have q4 : D.tup ((Txt.split r2 ", ").map refWD) = L.esD := congrArg (fun d => (tupD d).getD 3 .non) eL
    have q5 : rbD k rs rows = L.b.d := congrArg (fun d => (tupD d).getD 4 .non) eL
    obtain ⟨b, e1, e2, e3, e4, e5⟩ := rb_ok hk hl hr (by rw [q5]; exact body_ok ok.b)
    have eb : b = L.b := by
      have h1 : b.d = L.b.d := e1.symm.trans q5
      have h2 := bodOf_d b
      rw [h1, bodOf_d] at h2
      exact h2.symm
    rw [eb] at e3 e4 e5
  · have q1 : (pairW r0).1 = L.a := by injection q1
    have q2 : (pairW r0).2 = L.n := by injection q2
    have q3 : numW r1 = L.s := by injection q3
    have q4 : (Txt.split r2 ", ").map refWD = L.es.map fun p => refD p.1 p.2 := by injection q4
    have h0 : r0 = refS L.a L.n := pairW_back (by rw [← q1, ← q2]) ok.n
    have h1 : r1 = numS L.s := by
      have := numW_back (w := r1) (by rw [q3]; exact ok.s)
      rw [q3] at this; exact this
    have h2 : r2 = seenS L.es := by
      have : Txt.split r2 ", " = L.es.map fun p => refS p.1 p.2 := by
        have key : ∀ (ws : List Str) (es : List (Str × Int)), (∀ p ∈ es, NmOk p.1 ∧ NuOk p.2) → ws.map refWD = es.map (fun p => refD p.1 p.2) → ws = es.map fun p => refS p.1 p.2 := by
          intro ws
          induction ws with
          | nil => intro es _ e; cases es with
            | nil => rfl
            | cons _ _ => cases e
          | cons w r ih =>
            intro es hes e
            cases es with
            | nil => cases e
            | cons p t =>
              simp only [List.map_cons, List.cons.injEq] at e
              obtain ⟨e1, e2⟩ := refD_inj e.1
              have hw := pairW_back (w := w) (x := p.1) (n := p.2) (by rw [← e1, ← e2]) (hes p List.mem_cons_self).2
              rw [List.map_cons, ← ih t (fun q hq => hes q (List.mem_cons_of_mem _ hq)) e.2, ← hw]
        exact key _ _ ok.es q4
      unfold seenS
      rw [← this, join_split]
    rw [hh, lW4, h0, h1, h2, ← e3, ← e4]; rfl
  · exact e5
end
section
open PySem PySem.Spec PyProof.Rows L2
open Evl (Ex ex_rd ex_l ex_t)
open CwR
set_option autoImplicit false
open Bod (NmOk NuOk TtOk TxOk)
section
variable {Pr : Program} {w : World} {K : PySem.W.Frag} {mg : Str → Option Value} {base : Heap} {C CB : Addr}
theorem ok__law_is_value (T : Txt w K mg C CB) : CallOk Pr w K mg base CX0 5 "_law_is_value" ["_law_thing"] (spP K C (fD isLetterD)) := by
  have c__law_is_body := @ok__law_is_body Pr w K mg base C CB T
  have c__law_is_name := @ok__law_is_name Pr w K mg base C CB T
  have c__law_is_number := @ok__law_is_number Pr w K mg base C CB T
  have c__law_is_seen := @ok__law_is_seen Pr w K mg base C CB T
  refine T.d__law_is_value.ok sc__law_is_value (fun vs H Q E h => len_P Fn1.len h) (fun f cdv A outer s H vs Q E hr h => ⟨_, (pss_cons (ps_if (PW.pt (pw_or (pt_not (pt_val (pe_callB call_isi (by rfl) T.n_isinstance bb_isinstance (pa_cons (pv 0) (pa_cons (pe_bltn (v := .ty "tuple") (by rfl) T.n_tuple bb_tuple rfl) pa_nil))))) (pw_or1 (pt_cmpR op_ne (pe_callB cLen (by rfl) T.n_len bb_len (pa_cons (pv 0) pa_nil)) pe_int (nomark _))))) (pss_one (ps_ret pe_bl)) pss_nil)
      (pss_cons (ps_asg (pv 0) (pg_tup rfl (pgs_cons (pg_name (i := 1) sc__law_is_value.nd rfl (.inl rfl)) (pgs_cons (pg_name (i := 2) sc__law_is_value.nd rfl (.inl rfl)) (pgs_cons (pg_name (i := 3) sc__law_is_value.nd rfl (.inl rfl)) (pgs_cons (pg_name (i := 4) sc__law_is_value.nd rfl (.inl rfl)) (pgs_cons (pg_name (i := 5) sc__law_is_value.nd rfl (.inl rfl)) pgs_nil)))))))
      (pss_cons (ps_if (PW.pt (pw_or (pt_not (pt_val (pe_cal c__law_is_name (hr.mono (by decide)) pass0 (pa_cons (pv 1) pa_nil)))) (pw_or (pt_not (pt_val (pe_cal c__law_is_number (hr.mono (by decide)) pass0 (pa_cons (pv 2) pa_nil)))) (pw_or1 (pt_not (pt_val (pe_cal c__law_is_number (hr.mono (by decide)) pass0 (pa_cons (pv 3) pa_nil)))))))) (pss_one (ps_ret pe_bl)) pss_nil)
      (pss_cons (ps_if (PW.pt (pw_or (pt_not (pt_val (pe_cal c__law_is_seen (hr.mono (by decide)) pass0 (pa_cons (pv 4) pa_nil)))) (pw_or (pt_not (pt_val (pe_cal c__law_is_body (hr.mono (by decide)) pass0 (pa_cons (pv 5) pa_nil)))) (pw_or (pt_cmpR (op_notInDT (hu_of2 hr)) (pe_tup (pa_cons (pv 1) (pa_cons (pv 2) pa_nil))) (pv 4) (by rfl)) (pw_or1 (pt_cmpR op_lt (pv 3) (pv 2) (nomark _))))))) (pss_one (ps_ret pe_bl)) pss_nil)
      (pss_cons (ps_if (pt_cmpR op_eq (pe_ix ix_tup (pv 5) pe_int (fun _ _ => rfl)) pe_str (nomark _)) (pss_one (ps_ret (pe_and (pe_cmpR op_eq (pv 3) pe_int (nomark _)) (pe_and (pe_cmpR op_eq (pe_callB cLen (by rfl) T.n_len bb_len (pa_cons (pv 4) pa_nil)) pe_int (nomark _)) (pe_one (pe_cmpR op_notIn_seq (pv 1) (pe_ix ix_tup (pv 5) pe_int (fun _ _ => rfl)) (by rfl))))))) pss_nil)
      (pss_one (ps_ret (pe_cmpR op_ne (pv 3) pe_int (nomark _))))))))), body_P h fun ds P hf => ?_⟩)
  obtain ⟨d, rfl, hd, p⟩ := hf
  refine ⟨Nat.le_of_ble_eq_true rfl, ?_⟩
  show WS _ _ [.dat d, .un, .un, .un, .un, .un] _ _ _ _
  try dsimp only [cxOf]
  cases d with
  | tup ds =>
    by_cases hl : ds.length = 5
    · match ds, hl, hd, p with
      | [a, n, s, e, b], _, hd, p =>
        have sa : Sm a := hd.2.1
        have sn : Sm n := hd.2.2.1
        have ss : Sm s := hd.2.2.2.1
        have se : Sm e := hd.2.2.2.2.1
        have sb : Sm b := hd.2.2.2.2.2.1
        have eL : isLetterD (.tup [a, n, s, e, b]) = ((isNameD a && (isNumD n && isNumD s)) && ((isSeenD e && isBodyD b) && ((pairIn a n (tupD e) && decide (intD n ≤ intD s)) &&
          (if kindD b = "found" then decide (intD s = 1) && (decide ((tupD e).length = 1) && !(memD b).any (D.eqS (strD a))) else decide (1 < intD s))))) := rfl
        walk_at "w"
        cases e1 : isNameD a with
        | false => walk_at "w"; exact Pto p (by rw [eL, e1]; rfl)
        | true =>
        walk_at "w"
        cases e2 : isNumD n with
        | false => walk_at "w"; exact Pto p (by rw [eL, e1, e2]; rfl)
        | true =>
        walk_at "w"
        cases e3 : isNumD s with
        | false => walk_at "w"; exact Pto p (by rw [eL, e1, e2, e3]; rfl)
        | true =>
        walk_at "w"
        cases e4 : isSeenD e with
        | false => walk_at "w"; exact Pto p (by rw [eL, e4]; simp)
        | true =>
        walk_at "w"
        cases e5 : isBodyD b with
        | false => walk_at "w"; exact Pto p (by rw [eL, e4, e5]; simp)
        | true =>
        walk_at "w"
        obtain ⟨x, rfl⟩ := isNameD_str e1
        obtain ⟨i, rfl⟩ := isNumD_int e2
        obtain ⟨j, rfl⟩ := isNumD_int e3
        obtain ⟨es, rfl, hr, ha⟩ := isSeenD_eq e4
        obtain ⟨k, r, rfl⟩ := isBodyD_head e5
        have px : (D.tup [.str x, .int i]).pure = true := rfl
        have hpr : ∀ d ∈ es, d.pure = true := fun d hd => ref_pure (hr d hd)
        have q1 : (D.tup [.str x, .int i]).shp := Sm.shp ⟨(by decide : 2 ≤ 50000), sa, trivial, trivial⟩ (Nat.le_trans (dep_tup (n := 0) fun d hd => by
          rcases List.mem_cons.mp hd with e | e
          · rw [e]; exact dep_str
          · rcases List.mem_cons.mp e with e | e
            · rw [e]; exact dep_int
            · cases e) (by decide))
        have q2 : (D.tup es).shp := se.shp (Nat.le_trans (dep_tup fun d hd => ref_dep (hr d hd)) (by decide))
        refine od_niDT q1 q2 ?_
        have ep : ((D.pyL es).any fun z => PyData.eqv z (D.tup [.str x, .int i]).py) = pairIn (.str x) (.int i) es := by
          rw [Bool.eq_iff_iff, any_pyL px hpr, pairIn_iff hr]
        rw [ep]
        have eL : isLetterD (.tup [.str x, .int i, .int j, .tup es, .tup (.str k :: r)]) = (pairIn (.str x) (.int i) es && (decide (i ≤ j) &&
          (if k = "found" then decide (j = 1) && (decide (es.length = 1) && !(memD (.tup (.str k :: r))).any (D.eqS x)) else decide (1 < j)))) := by
          rw [eL, e1, e2, e3, e4, e5]
          simp only [Bool.true_and, Bool.and_assoc]; rfl
        walk_at "w"
        cases e6 : pairIn (.str x) (.int i) es with
        | false => walk_at "w"; exact Pto p (by rw [eL, e6]; rfl)
        | true =>
        walk_at "w"
        refine if_2 (fun h7 => ?_) (fun h7 => ?_)
        · walk_at "w"
          have h7 : ¬ i ≤ j := by have := of_decide_eq_true h7; omega
          exact Pto p (by rw [eL]; simp [h7])
        · have h7 : i ≤ j := by simp only [decide_eq_false_iff_not] at h7; omega
          have e7 : decide (i ≤ j) = true := by simp [h7]
          walk_at "w"
          by_cases hk : k = "found"
          · subst hk
            obtain ⟨t, m, rfl, ht, hm⟩ := isBodyD_found e5
            obtain ⟨ms, rfl, hml, hmn, _⟩ := isMembersD_eq hm
            have eL : isLetterD (.tup [.str x, .int i, .int j, .tup es, .tup [.str "found", t, .tup ms]]) = (decide (j = 1) && (decide (es.length = 1) && !ms.any (D.eqS x))) := by
              rw [eL, e6, e7]; rfl
            walk_at "w"
            refine if_2 (fun h8 => ?_) (fun h8 => ?_)
            · have h8' := of_decide_eq_true h8
              subst h8'
              have hi : i = 1 := by
                have := e2
                simp only [isNumD, numOk, Bool.and_eq_true, decide_eq_true_eq] at this
                omega
              subst hi
              walk_at "w"
              walk_at "w"
              have ez : decide (((es.length : Nat) : Int) = 1) = decide (es.length = 1) := by
                rw [Bool.eq_iff_iff, decide_eq_true_eq, decide_eq_true_eq]; omega
              rw [ez]
              refine if_2 (fun h9 => ?_) (fun h9 => ?_)
              · walk_at "w"
                refine od_niT (names_str hmn) ?_
                refine Pto p ?_
                rw [eL, h9]; rfl
              · refine Pto p ?_
                rw [eL, h9]; rfl
            · refine Pto p ?_
              rw [eL, h8]; rfl
          · have hj1 : 1 ≤ j := by
              have := e3
              simp only [isNumD, numOk, Bool.and_eq_true, decide_eq_true_eq] at this
              exact this.1
            have eL : isLetterD (.tup [.str x, .int i, .int j, .tup es, .tup (.str k :: r)]) = !decide (j = 1) := by
              rw [eL, e6, e7, if_neg hk, Bool.eq_iff_iff]
              simp
              omega
            have ek : decide (k = "found") = false := by simp [hk]
            walk_at "w"
            exact Pto p eL
    · have hf : isLetterD (.tup ds) = false := by
        unfold isLetterD
        split
        · exfalso; rename_i e; cases e; exact hl rfl
        · rfl
      walk_at "w"
      refine if_2 (fun h1 => ?_) (fun h1 => ?_)
      · walk_at "w"; exact Pto p hf
      · exfalso
        simp only [Bool.not_eq_false', decide_eq_true_eq] at h1
        omega
  | dct _ _ => exact hd.elim
  | ltr _ _ _ _ _ => exact hd.elim
  | scr _ => exact hd.elim
  | _ => walk_at "w"; exact p
end
end
section
open PySem PySem.Spec PyProof.Rows L2
open Evl (Ex ex_rd ex_l ex_t)
open CwR
set_option autoImplicit false
open Bod (NmOk NuOk TtOk TxOk)
theorem linesW_mem : ∀ {ws rs : List Str}, rs.length = ws.length → ∀ r ∈ rs, ∃ w, w ++ (": " : Str) ++ r ∈ linesW ws rs
  | [], [], _, r, h => by cases h
  | [], _ :: _, h, _, _ => by cases h
  | _ :: _, [], h, _, _ => by cases h
  | w :: ws, s :: rs, h, r, hr => by
    rcases List.mem_cons.mp hr with z | z
    · exact ⟨w, by rw [z]; exact List.mem_cons_self⟩
    · obtain ⟨v, hv⟩ := linesW_mem (ws := ws) (rs := rs) (by simpa using h) r z
      exact ⟨v, List.mem_cons_of_mem _ hv⟩
theorem rest_ok {ws rs : List Str} (hl : rs.length = ws.length) (h : ∀ l ∈ linesW ws rs, StrS l ∧ l.length < 50000) : ∀ r ∈ rs, StrS r ∧ r.length < 50000 := fun r hr => by
  obtain ⟨w, hw⟩ := linesW_mem hl r hr
  obtain ⟨h1, h2⟩ := h _ hw
  rw [slen_app] at h2
  refine ⟨⟨by omega, fun c hc => h1.2 c ?_⟩, by omega⟩
  rw [TL.tl_append]
  exact List.mem_append_right _ hc
theorem strS_pairW {w : Str} (h : StrS w) : StrS (pairW w).1 := by
  unfold pairW
  split
  · rename_i a b e
    exact strS_split (y := " ") (fun z => by cases z) (by decide +kernel) h a (by rw [e]; simp)
  · exact strS_empty
theorem sm_refWD {w : Str} (h : StrS w) : Sm (refWD w) := ⟨(by decide : 2 ≤ 50000), strS_pairW h, trivial, trivial⟩
theorem lit_sm {s : Str} (h1 : s.length ≤ 10) (h2 : (TL.tl s).all (· < 128) = true) : Sm (.str s) := ⟨Nat.le_trans h1 (by decide), fun c hc => by have := List.all_eq_true.mp h2 c hc; simpa using this⟩
theorem sm_rbD {k : Str} {ws rs rows : List Str} (hk : bwL k = some ws) (hl : rs.length = ws.length) (h : ∀ r ∈ rs, StrS r ∧ r.length < 50000) (ht : StrS (Txt.join "\n" rows)) : Sm (rbD k rs rows) := by
  rcases bwL_cases hk with ⟨rfl, rfl⟩ | ⟨rfl, rfl⟩ | ⟨rfl, rfl⟩ | ⟨rfl, rfl⟩ | ⟨rfl, rfl⟩ | ⟨rfl, rfl⟩ | ⟨rfl, rfl⟩ | ⟨rfl, rfl⟩ | ⟨rfl, rfl⟩ | ⟨rfl, rfl⟩ | ⟨rfl, rfl⟩
  · obtain ⟨r0, r1, rfl⟩ := len2 hl
    show Sm (if rows = [] then _ else _)
    split
    · refine sm_three (lit_sm (Nat.le_of_ble_eq_true rfl) (by decide +kernel)) (h r0 (by simp)).1 ?_
      split
      · exact ⟨Nat.zero_le _, trivial⟩
      · refine ⟨?_, SmL.strs (strS_split (y := ", ") (fun z => by cases z) (by decide +kernel) (h r1 (by simp)).1)⟩
        rw [List.length_map]
        have := (split_parts r1 ", " (fun z => by cases z) (by decide +kernel)).1
        have := (h r1 (by simp)).2
        omega
    · trivial
  · obtain ⟨r0, rfl⟩ := len1' hl
    show Sm (if r0 = numS (rows.length : Nat) ∧ ¬ rows = [] then _ else _)
    split
    · exact sm_two (lit_sm (Nat.le_of_ble_eq_true rfl) (by decide +kernel)) ht
    · trivial
  · obtain ⟨r0, r1, rfl⟩ := len2 hl
    show Sm (if r1 = numS (rows.length : Nat) ∧ ¬ rows = [] then _ else _)
    split
    · exact sm_three (lit_sm (Nat.le_of_ble_eq_true rfl) (by decide +kernel)) (sm_refWD (h r0 (by simp)).1) ht
    · trivial
  · obtain ⟨r0, r1, rfl⟩ := len2 hl
    show Sm (if r1 = numS (rows.length : Nat) ∧ ¬ rows = [] then _ else _)
    split
    · exact sm_three (lit_sm (Nat.le_of_ble_eq_true rfl) (by decide +kernel)) (sm_refWD (h r0 (by simp)).1) ht
    · trivial
  · obtain ⟨r0, rfl⟩ := len1' hl
    show Sm (if rows = [] then _ else _)
    split
    · exact sm_two (lit_sm (Nat.le_of_ble_eq_true rfl) (by decide +kernel)) (sm_refWD (h r0 (by simp)).1)
    · trivial
  · obtain ⟨r0, r1, rfl⟩ := len2 hl
    show Sm (if rows = [] then _ else _)
    split
    · exact sm_three (lit_sm (Nat.le_of_ble_eq_true rfl) (by decide +kernel)) (sm_refWD (h r0 (by simp)).1) (h r1 (by simp)).1
    · trivial
  · obtain ⟨r0, rfl⟩ := len1' hl
    show Sm (if rows = [] then _ else _)
    split
    · exact sm_two (lit_sm (Nat.le_of_ble_eq_true rfl) (by decide +kernel)) (h r0 (by simp)).1
    · trivial
  · obtain ⟨r0, rfl⟩ := len1' hl
    show Sm (if rows = [] then _ else _)
    split
    · exact sm_two (lit_sm (Nat.le_of_ble_eq_true rfl) (by decide +kernel)) (h r0 (by simp)).1
    · trivial
  · obtain ⟨r0, rfl⟩ := len1' hl
    show Sm (if rows = [] then _ else _)
    split
    · exact sm_two (lit_sm (Nat.le_of_ble_eq_true rfl) (by decide +kernel)) (h r0 (by simp)).1
    · trivial
  · obtain ⟨r0, rfl⟩ := len1' hl
    show Sm (if rows = [] then _ else _)
    split
    · exact sm_two (lit_sm (Nat.le_of_ble_eq_true rfl) (by decide +kernel)) (h r0 (by simp)).1
    · trivial
  · obtain rfl : rs = [] := List.length_eq_zero_iff.mp hl
    show Sm (if rows = [] then _ else _)
    split
    · exact sm_one (lit_sm (Nat.le_of_ble_eq_true rfl) (by decide +kernel))
    · trivial
theorem bwL_sz {k : Str} {ws : List Str} (h : bwL k = some ws) : ws.length ≤ 2 ∧ ∀ w ∈ ws, w.length ≤ 50000 := by
  have key : ∀ (l : List Str), (l.length ≤ 2 ∧ l.all (fun w => decide (w.length ≤ 50000)) = true) → l.length ≤ 2 ∧ ∀ w ∈ l, w.length ≤ 50000 := fun l h => ⟨h.1, fun w hw => by have := List.all_eq_true.mp h.2 w hw; simpa using this⟩
  rcases bwL_cases h with ⟨_, rfl⟩ | ⟨_, rfl⟩ | ⟨_, rfl⟩ | ⟨_, rfl⟩ | ⟨_, rfl⟩ | ⟨_, rfl⟩ | ⟨_, rfl⟩ | ⟨_, rfl⟩ | ⟨_, rfl⟩ | ⟨_, rfl⟩ | ⟨_, rfl⟩ <;> exact key _ (by decide +kernel)
theorem cut6 {h k : Str} (e : cutS h none (some 6) = "Kind: ") : h = "Kind: " ++ cutS h (some 6) none := by
  have h1 := cutS_to h 6
  have h2 := cutS_from h 6
  refine TL.ext_tl ?_
  rw [TL.tl_append, ← e]
  show TL.tl h = TL.tl (cutS h none (some ((6 : Nat) : Int))) ++ TL.tl (cutS h (some ((6 : Nat) : Int)) none)
  rw [h1, h2, List.take_append_drop]
theorem cut6_of (k : Str) : cutS ("Kind: " ++ k) none (some 6) = "Kind: " ∧ cutS ("Kind: " ++ k) (some 6) none = k := by
  have h1 := cutS_to ("Kind: " ++ k) 6
  have h2 := cutS_from ("Kind: " ++ k) 6
  have e : (TL.tl (Str.ofString "Kind: ")).length = 6 := rfl
  rw [TL.tl_append, ← e, List.take_left] at h1
  rw [TL.tl_append, ← e, List.drop_left] at h2
  exact ⟨TL.ext_tl h1, TL.ext_tl h2⟩
def pairPD : D → D
  | .str w => refWD w
  | d => d
theorem map_pairPD (ws : List Str) : (ws.map D.str).map pairPD = ws.map refWD := by rw [List.map_map]; rfl
theorem four_len {α : Type} {l : List α} {n : Nat} (h : l.length = 4 + n) : ∃ a b c d r, l = a :: b :: c :: d :: r ∧ r.length = n := by
  match l, h with
  | [], h => simp only [List.length_nil] at h; omega
  | [_], h => simp only [List.length_cons, List.length_nil] at h; omega
  | [_, _], h => simp only [List.length_cons, List.length_nil] at h; omega
  | [_, _, _], h => simp only [List.length_cons, List.length_nil] at h; omega
  | a :: b :: c :: d :: r, h => exact ⟨a, b, c, d, r, rfl, by simp only [List.length_cons] at h; omega⟩
section
variable {Pr : Program} {w : World} {K : PySem.W.Frag} {mg : Str → Option Value} {base : Heap} {C CB : Addr}
abbrev fReadV : Fn := Fn2 fun d e P => ∃ heads rows : List Str, d = .lst (heads.map .str) ∧ e = .lst (rows.map .str) ∧ heads.length ≤ 50000 ∧ (∀ l ∈ heads, StrS l ∧ l.length < 50000) ∧ rows.length ≤ 50000 ∧ (rows.map (·.length)).sum ≤ 50000 ∧ (∀ l ∈ rows, ∀ c ∈ TL.tl l, c < 128) ∧
  StrS (Txt.join "\n" rows) ∧ (∀ r ∈ rows, 10 ∉ TL.tl r) ∧ (∀ L, Acc heads (txR rows) L → P L.d) ∧ ((∀ L, ¬ Acc heads (txR rows) L) → P .non)
theorem ok__law_read_value (T : Txt w K mg C CB) : CallOk Pr w K mg base CX0 6 "_law_read_value" ["_law_heads", "_law_rows"] (spP K C (fReadV)) := by
  have c__law_body_words := @ok__law_body_words Pr w K mg base C CB T
  have c__law_is_value := @ok__law_is_value Pr w K mg base C CB T
  have c__law_pair := @ok__law_pair Pr w K mg base C CB T
  have c__law_read_body := @ok__law_read_body Pr w K mg base C CB T
  have c__law_rests := @ok__law_rests Pr w K mg base C CB T
  have c__law_whole := @ok__law_whole Pr w K mg base C CB T
  refine T.d__law_read_value.ok sc__law_read_value (fun vs H Q E h => len_P Fn2.len h) (fun f cdv A outer s H vs Q E hr h => ⟨_, (pss_cons (ps_if (PW.pt (pw_or (pt_cmpR op_lt (pe_callB cLen (by rfl) T.n_len bb_len (pa_cons (pv 0) pa_nil)) pe_int (nomark _)) (pw_or1 (pt_cmpR op_ne (pe_slice sl_str (pe_ix ix_list (pv 0) pe_int (fun _ _ => rfl)) po_none (po_some pe_int)) pe_str (nomark _))))) (pss_one (ps_ret pe_non)) pss_nil)
      (pss_cons (ps_set (i := 2) sc__law_read_value.nd rfl (.inl rfl) (pe_slice sl_str (pe_ix ix_list (pv 0) pe_int (fun _ _ => rfl)) (po_some pe_int) po_none))
      (pss_cons (ps_set (i := 3) sc__law_read_value.nd rfl (.inl rfl) (pe_cal c__law_body_words (hr.mono (by decide)) pass0 (pa_cons (pv 2) pa_nil)))
      (pss_cons (ps_if (pt_cmpR op_isN1 (pv 3) pe_non (nomark _)) (pss_one (ps_ret pe_non)) pss_nil)
      (pss_cons (ps_set (i := 4) sc__law_read_value.nd rfl (.inl rfl) (pe_cal c__law_rests (hr.mono (by decide)) pass0 (pa_cons (pv 0) (pa_cons (pe_op op_cat (pe_lst (pa_cons pe_str (pa_cons pe_str (pa_cons pe_str (pa_cons pe_str pa_nil))))) (pv 3)) pa_nil))))
      (pss_cons (ps_if (pt_cmpR op_isN1 (pv 4) pe_non (nomark _)) (pss_one (ps_ret pe_non)) pss_nil)
      (pss_cons (ps_asg (pe_cal c__law_pair (hr.mono (by decide)) pass0 (pa_cons (pe_ix ix_list (pv 4) pe_int (fun _ _ => rfl)) pa_nil)) (pg_tup rfl (pgs_cons (pg_name (i := 5) sc__law_read_value.nd rfl (.inl rfl)) (pgs_cons (pg_name (i := 6) sc__law_read_value.nd rfl (.inl rfl)) pgs_nil))))
      (pss_cons (ps_set (i := 7) sc__law_read_value.nd rfl (.inl rfl) (pe_callTy cTupO (by rfl) T.n_tuple bb_tuple (pa_cons (pe_lc (own := [("_law_pair_here", 9)]) (g := gName 9) (tt := tYes) rfl sc__law_read_value.nd (pi_list (pe_m1 PySem.F.slot_str_split PySem.F.type_str_split mSplit (pe_ix ix_list (pv 4) pe_int (fun _ _ => rfl)) pe_str)) (blkOk_by (own := [("_law_pair_here", 9)]) (N := N__law_read_value) (sc := defScope s__law_read_value) (by decide +kernel)) (fun _ _ _ _ _ => pg_name (i := 9) sc__law_read_value.nd rfl (Or.inl rfl)) (fun _ _ _ _ _ => pts_nil) (fun _ _ _ _ _ => (pe_cal c__law_pair (hr.mono (by decide)) pass0 (pa_cons (pv 9) pa_nil)))) pa_nil)))
      (pss_cons (ps_set (i := 8) sc__law_read_value.nd rfl (.inl rfl) (pe_tup (pa_cons (pv 5) (pa_cons (pv 6) (pa_cons (pe_cal c__law_whole (hr.mono (by decide)) pass0 (pa_cons (pe_ix ix_list (pv 4) pe_int (fun _ _ => rfl)) pa_nil)) (pa_cons (pv 7) (pa_cons (pe_cal c__law_read_body (hr.mono (by decide)) pass0 (pa_cons (pv 2) (pa_cons (pe_slice sl_list (pv 4) (po_some pe_int) po_none) (pa_cons (pv 1) pa_nil)))) pa_nil)))))))
      (pss_cons (ps_if (pt_not (pt_val (pe_cal c__law_is_value (hr.mono (by decide)) pass0 (pa_cons (pv 8) pa_nil)))) (pss_one (ps_ret pe_non)) pss_nil)
      (pss_one (ps_ret (pv 8))))))))))))), body_P h fun ds P hf => ?_⟩)
  obtain ⟨_, _, rfl, heads, rows, rfl, rfl, hn, hL, hrn, hrs, hrc, hrt, hr, yes, no⟩ := hf
  refine ⟨Nat.le_of_ble_eq_true rfl, ?_⟩
  show WS _ _ [.dat (.lst (heads.map .str)), .dat (.lst (rows.map .str)), .un, .un, .un, .un, .un, .un, .un, .un] _ _ _ _
  try dsimp only [cxOf]
  have shape := fun L (h : Acc heads (txR rows) L) => acc_shape hr h
  by_cases hlen : heads.length < 4
  · walk_at "w"
    rw [List.length_map]
    have e : decide (((heads.length : Nat) : Int) < 4) = true := by simp; omega
    walk_at "w"
    refine no fun L hA => ?_
    obtain ⟨ws, rs, q1, q2, q3, _⟩ := shape L hA
    rw [q3, lW4, List.length_append] at hlen
    simp only [List.length_cons] at hlen
    omega
  · obtain ⟨h0, h1, h2, h3, rest, rfl, _⟩ := four_len (l := heads) (n := heads.length - 4) (by omega)
    have l3 := (hL h3 (by simp)).1
    have l3' : h3.length ≤ 100000 := Nat.le_trans l3.1 (by decide)
    have e : decide ((((h0 :: h1 :: h2 :: h3 :: rest).length : Nat) : Int) < 4) = false := by
      simp only [List.length_cons, decide_eq_false_iff_not]; omega
    have shape3 : ∀ L, Acc (h0 :: h1 :: h2 :: h3 :: rest) (txR rows) L → h3 = "Kind: " ++ L.b.kind := fun L hA => by
      obtain ⟨ws, rs, q1, q2, q3, _⟩ := shape L hA
      rw [lW4] at q3
      injection q3 with _ q3
      injection q3 with _ q3
      injection q3 with _ q3
      injection q3 with q3 _
    have a3 : atI ((h0 :: h1 :: h2 :: h3 :: rest).map D.str) 3 = some (.str h3) := atI_nat (j := 3) rfl
    walk_at "w"
    refine od_ixL a3 ?_
    walk_at "w"
    by_cases c3 : cutS h3 none (some 6) = "Kind: "
    · have e3 : (!decide (cutS h3 none (some 6) = "Kind: ")) = false := by rw [decide_eq_true c3]; rfl
      obtain ⟨k, ek⟩ : ∃ k, k = cutS h3 (some 6) none := ⟨_, rfl⟩
      have eh3 : h3 = "Kind: " ++ k := by rw [ek]; exact cut6 (k := k) c3
      have kk : ∀ L, Acc (h0 :: h1 :: h2 :: h3 :: rest) (txR rows) L → L.b.kind = k := fun L hA => by
        have := shape3 L hA
        rw [ek, this, (cut6_of _).2]
      walk_at "w"
      refine od_ixL a3 ?_
      walk_at "w"
      rw [← ek]
      cases hk : bwL k with
      | none =>
        refine if_is (v := true) rfl (if_t ?_)
        walk_at "w"
        refine no fun L hA => ?_
        obtain ⟨ws, rs, q1, q2, q3, _⟩ := shape L hA
        rw [kk L hA, hk] at q1
        cases q1
      | some ws =>
        obtain ⟨w1, w2⟩ := bwL_sz hk
        refine if_is (v := false) rfl (if_f (ws_next ?_))
        walk_at "w"
        refine od_cat (by rw [List.length_map]; simp only [List.length_cons, List.length_nil]; omega) ?_
        refine wa_nil (Fn2.mk ⟨h0 :: h1 :: h2 :: h3 :: rest, four ++ ws, rfl, rfl, fun h hh => (hL h hh).1.1, fun w hw => ?_, hn, ?_⟩)
        · rcases List.mem_append.mp hw with z | z
          · have : ∀ w ∈ four, w.length ≤ 50000 := by decide +kernel
            exact this w z
          · exact w2 w z
        cases hre : restsL (h0 :: h1 :: h2 :: h3 :: rest) (four ++ ws) with
        | none =>
          walk_at "w"
          refine no fun L hA => ?_
          obtain ⟨ws', rs', q1, q2, q3, _⟩ := shape L hA
          rw [kk L hA, hk] at q1
          cases q1
          have := rests_of (ws := four ++ ws) (rs := [refS L.a L.n, numS L.s, seenS L.es, L.b.kind] ++ rs') (by rw [List.length_append, List.length_append, q2]; rfl)
          rw [← q3, hre] at this
          cases this
        | some rr =>
          obtain ⟨hh, hlr⟩ := rests_some hre
          obtain ⟨r0, r1, r2, r3, rs, rfl, hrl⟩ := four_len (l := rr) (n := ws.length) (by rw [hlr, List.length_append]; rfl)
          have hh' : h0 :: h1 :: h2 :: h3 :: rest = linesW (four ++ ws) ([r0, r1, r2, r3] ++ rs) := hh
          have hrok := rest_ok (ws := four ++ ws) (rs := r0 :: r1 :: r2 :: r3 :: rs) hlr (by rw [← hh]; exact hL)
          have hr3 : r3 = k := by
            rw [lW4] at hh'
            injection hh' with _ q
            injection q with _ q
            injection q with _ q
            injection q with q _
            have : "Kind: " ++ k = "Kind: " ++ r3 := by rw [← eh3]; exact q
            have h1 := (cut6_of k).2
            rw [this, (cut6_of r3).2] at h1
            exact h1
          subst hr3
          have o0 := hrok r0 (by simp)
          have o1 := hrok r1 (by simp)
          have o2 := hrok r2 (by simp)
          have ors : ∀ r ∈ rs, StrS r ∧ r.length < 50000 := fun r hr => hrok r (by simp [hr])
          have b0 := o0.1.1
          have b1 := o1.1.1
          have b2 : r2.length ≤ 90000 := by have := o2.2; omega
          have i0 : atI ((r0 :: r1 :: r2 :: r3 :: rs).map D.str) 0 = some (.str r0) := atI_nat (j := 0) rfl
          have i1 : atI ((r0 :: r1 :: r2 :: r3 :: rs).map D.str) 1 = some (.str r1) := atI_nat (j := 1) rfl
          have i2 : atI ((r0 :: r1 :: r2 :: r3 :: rs).map D.str) 2 = some (.str r2) := atI_nat (j := 2) rfl
          have ic : cutD ((r0 :: r1 :: r2 :: r3 :: rs).map D.str) (some 4) none = rs.map .str := cutD_from _ 4
          have smv : Sm (valW r3 r0 r1 r2 rs rows) := by
            refine ⟨(by decide : 5 ≤ 50000), strS_pairW o0.1, trivial, trivial, ⟨?_, SmL.of fun d hd => ?_⟩, sm_rbD hk hrl ors hrt, trivial⟩
            · rw [List.length_map]
              have := (split_parts r2 ", " (fun z => by cases z) (by decide +kernel)).1
              have := o2.2
              omega
            · obtain ⟨w, hw, rfl⟩ := List.mem_map.mp hd
              exact sm_refWD (strS_split (y := ", ") (fun z => by cases z) (by decide +kernel) o2.1 w hw)
          have hneed : ∀ L, Acc (h0 :: h1 :: h2 :: h3 :: rest) (txR rows) L → valW r3 r0 r1 r2 rs rows = L.d := fun L hA => by
            obtain ⟨ws', rs', q1, q2, q3, q4⟩ := shape L hA
            have hkk := kk L hA
            rw [hkk, hk] at q1
            cases q1
            have := rests_of (ws := four ++ ws) (rs := [refS L.a L.n, numS L.s, seenS L.es, L.b.kind] ++ rs') (by rw [List.length_append, List.length_append, q2]; rfl)
            rw [← q3, hre] at this
            have this := Option.some.inj this
            injection this with e0 this
            injection this with e1 this
            injection this with e2 this
            injection this with e3 this
            have this : rs = rs' := this
            rw [← e0, ← e1, ← e2, ← this, hkk] at q4
            exact q4
          show WG _ _ (D.lst ((r0 :: r1 :: r2 :: r3 :: rs).map D.str)) _ _
          refine wg_name (Nat.le_of_ble_eq_true rfl) ?_
          walk_at "w"
          refine od_ixL i0 ?_
          walk_at "w"
          refine od_ixL i2 ?_
          walk_at "w"
          refine LcInv.map pairPD ?la ?lb (fun i d hd => ?_) ?_
          case la => exact Nat.le_of_ble_eq_true rfl
          case lb =>
            rw [List.length_map]
            have := (split_parts r2 ", " (fun z => by cases z) (by decide +kernel)).1
            exact Nat.le_trans this (by omega)
          · obtain ⟨w, hw, rfl⟩ := List.mem_map.mp (List.mem_of_getElem? hd)
            have hw1 := (strS_split (y := ", ") (fun z => by cases z) (by decide +kernel) o2.1 w hw).1
            walk_at "w"
            rfl
          · rw [map_pairPD]
            refine wa_nil (cd_tup ?_)
            refine wg_name (Nat.le_of_ble_eq_true rfl) ?_
            walk_at "w"
            refine od_ixL i1 ?_
            walk_at "w"
            rw [ic]
            refine ⟨r3, ws, rs, rows, rfl, rfl, rfl, hk, hrl, fun r hr => (ors r hr).1.1, hrn, hrs, hrc, ?_⟩
            refine g_WA ?_
            walk_at "w"
            refine if_2 (fun hv => ?_) (fun hv => ?_)
            · have hv : (!isLetterD (valW r3 r0 r1 r2 rs rows)) = true := hv
              walk_at "w"
              refine no fun L hA => ?_
              rw [hneed L hA, letter_ok hA.1] at hv
              cases hv
            · have hv : (!isLetterD (valW r3 r0 r1 r2 rs rows)) = false := hv
              have hv : isLetterD (valW r3 r0 r1 r2 rs rows) = true := by simpa using hv
              obtain ⟨L, eL, hA⟩ := acc_of hr hk hrl hh' hv
              walk_at "w"
              exact PtoD (yes L hA) eL.symm
    · have e3 : (!decide (cutS h3 none (some 6) = "Kind: ")) = true := by rw [decide_eq_false c3]; rfl
      walk_at "w"
      refine no fun L hA => c3 ?_
      rw [shape3 L hA]
      exact (cut6_of _).1
end
end
section
open PySem PySem.Spec PyProof.Rows L2
open Evl (Ex ex_rd ex_l ex_t)
open CwR
set_option autoImplicit false
open Bod (NmOk NuOk TtOk TxOk)
theorem unfL_app : ∀ (a b acc : List Str), unfL acc (a ++ b) = match unfL acc a with | none => none | some x => unfL x b
  | [], b, acc => rfl
  | l :: r, b, acc => by
    rw [List.cons_append, unfL_cons, unfL_cons]
    cases unfStep acc l with
    | none => rfl
    | some a => exact unfL_app r b a
theorem tw_upto {f : Str → Bool} {y : Str} : ∀ (xs : List Str) (k : Nat), (∀ x ∈ xs.take k, f x = true) → xs[k]? = some y → f y = false → xs.takeWhile f = xs.take k
  | [], k, _, h, _ => by rw [List.getElem?_nil] at h; cases h
  | x :: r, 0, _, h, hf => by
    rw [List.getElem?_cons_zero] at h
    cases h
    rw [List.takeWhile_cons, hf]; rfl
  | x :: r, k + 1, h1, h2, hf => by
    rw [List.take_succ_cons] at h1 ⊢
    rw [List.getElem?_cons_succ] at h2
    rw [List.takeWhile_cons, h1 x List.mem_cons_self, tw_upto r k (fun z hz => h1 z (List.mem_cons_of_mem _ hz)) h2 hf]
    rfl
theorem tw_whole {f : Str → Bool} : ∀ (xs : List Str), (∀ x ∈ xs, f x = true) → xs.takeWhile f = xs
  | [], _ => rfl
  | x :: r, h => by
    rw [List.takeWhile_cons, h x List.mem_cons_self, tw_whole r fun z hz => h z (List.mem_cons_of_mem _ hz)]
    rfl
theorem preM_upto {ls : List Str} {j : Nat} (h : ∀ l ∈ ls.take j, l ≠ ("" : Str)) (e : ls[j]? = some ("" : Str)) : preM ls = ls.take j :=
  tw_upto ls j (fun x hx => by rw [decide_eq_false (h x hx)]; rfl) e rfl
theorem preM_whole {ls : List Str} (h : ∀ l ∈ ls, l ≠ ("" : Str)) : preM ls = ls := tw_whole ls fun x hx => by rw [decide_eq_false (h x hx)]; rfl
theorem txM_txR (ls : List Str) : txM ls = txR ((rowsM ls).map rest1) := by
  unfold txM txR
  by_cases c : rowsM ls = []
  · rw [if_pos c, if_pos (by rw [c]; rfl)]
  · rw [if_neg c, if_neg (fun z => c (List.map_eq_nil_iff.mp z))]
theorem cutM_none_unf {ls : List Str} (h : unfL [] (preM ls) = none) : cutM ls = none := by
  unfold cutM
  rw [h]
  split <;> rfl
theorem pre_more {ls : List Str} {i : Nat} (h : ∀ l ∈ ls.take i, l ≠ ("" : Str)) : ∃ r, preM ls = ls.take i ++ r := by
  refine ⟨(ls.drop i).takeWhile fun l : Str => !decide (l = ""), ?_⟩
  unfold preM
  conv => lhs; rw [← List.take_append_drop i ls]
  exact List.takeWhile_append_of_pos fun x hx => by rw [decide_eq_false (h x hx)]; rfl
theorem fst1_head {l : Str} {c : Nat} {r : List Nat} (h : TL.tl l = c :: r) : fst1 l = ⟨#[c]⟩ := TL.ext_tl (by rw [fst1_tl, h]; rfl)
section
variable {ls hs : List Str} {j k : Nat} {y : Str}
theorem rowsM_upto (h1 : ∀ l ∈ ls.take j, l ≠ ("" : Str)) (h2 : ls[j]? = some ("" : Str)) (h3 : ∀ l ∈ (ls.drop (j + 1)).take k, fst1 l = "|") (h4 : (ls.drop (j + 1))[k]? = some y) (h5 : fst1 y ≠ "|") :
    (preM ls).length = j ∧ rowsM ls = (ls.drop (j + 1)).take k ∧ (rowsM ls).length = k := by
  have hj : j < ls.length := (List.getElem?_eq_some_iff.mp h2).1
  have hk : k < (ls.drop (j + 1)).length := (List.getElem?_eq_some_iff.mp h4).1
  have e1 : (preM ls).length = j := by rw [preM_upto h1 h2, List.length_take]; omega
  have e2 : rowsM ls = (ls.drop (j + 1)).take k := by
    unfold rowsM
    rw [e1]
    exact tw_upto _ k (fun x hx => decide_eq_true (h3 x hx)) h4 (decide_eq_false h5)
  exact ⟨e1, e2, by rw [e2, List.length_take]; omega⟩
theorem cutM_dot (h1 : ∀ l ∈ ls.take j, l ≠ ("" : Str)) (h2 : ls[j]? = some ("" : Str)) (h3 : ∀ l ∈ (ls.drop (j + 1)).take k, fst1 l = "|") (h4 : (ls.drop (j + 1))[k]? = some ("." : Str))
    (h5 : unfL [] (ls.take j) = some hs) : cutM ls = some (hs, txR (((ls.drop (j + 1)).take k).map rest1), j + 1 + k + 1) := by
  obtain ⟨e1, e2, e3⟩ := rowsM_upto h1 h2 h3 h4 (by decide +kernel)
  unfold cutM
  rw [txM_txR, e1, e3, e2, preM_upto h1 h2, h5, if_pos (by rw [List.getElem?_drop] at h4; exact h4)]
theorem cutM_other (h1 : ∀ l ∈ ls.take j, l ≠ ("" : Str)) (h2 : ls[j]? = some ("" : Str)) (h3 : ∀ l ∈ (ls.drop (j + 1)).take k, fst1 l = "|") (h4 : (ls.drop (j + 1))[k]? = some y) (h5 : fst1 y ≠ "|") (h6 : y ≠ ".") : cutM ls = none := by
  obtain ⟨e1, e2, e3⟩ := rowsM_upto h1 h2 h3 h4 h5
  rw [List.getElem?_drop] at h4
  unfold cutM
  rw [e1, e3, if_neg (by rw [h4]; exact fun z => h6 (Option.some.inj z))]
theorem cutM_end0 (h1 : ∀ l ∈ ls, l ≠ ("" : Str)) : cutM ls = none := by
  unfold cutM
  rw [preM_whole h1, if_neg (by rw [List.getElem?_eq_none (by omega)]; exact fun z => nomatch z)]
theorem cutM_end1 (h1 : ∀ l ∈ ls.take j, l ≠ ("" : Str)) (h2 : ls[j]? = some ("" : Str)) (h3 : ∀ l ∈ ls.drop (j + 1), fst1 l = "|") : cutM ls = none := by
  have hj : j < ls.length := (List.getElem?_eq_some_iff.mp h2).1
  have e1 : (preM ls).length = j := by rw [preM_upto h1 h2, List.length_take]; omega
  have e2 : (rowsM ls).length = ls.length - (j + 1) := by
    unfold rowsM
    rw [e1, tw_whole _ fun x hx => decide_eq_true (h3 x hx), List.length_drop]
  unfold cutM
  rw [e1, e2, if_neg (by rw [List.getElem?_eq_none (by omega)]; exact fun z => nomatch z)]
end
theorem atI_last {α : Type} {l : List α} {x : α} (h : l[l.length - 1]? = some x) : atI l (((l.length : Nat) : Int) - 1) = some x := by
  have hl : l.length - 1 < l.length := (List.getElem?_eq_some_iff.mp h).1
  rw [show ((l.length : Nat) : Int) - 1 = ((l.length - 1 : Nat) : Int) by omega]
  exact atI_nat h
theorem ixN_last {n : Nat} (h : 0 < n) : ixN n (((n : Nat) : Int) - 1) = some (n - 1) := by
  unfold ixN
  rw [if_pos (by omega), if_pos (by omega)]
  congr 1
  omega
def NoNl (ls : List Str) : Prop := ∀ l ∈ ls, 10 ∉ TL.tl l
section
variable {Pr : Program} {w : World} {K : PySem.W.Frag} {mg : Str → Option Value} {base : Heap} {C CB : Addr}
abbrev fReadL : Fn := Fn1 fun d P => ∃ ls : List Str, d = .lst (ls.map .str) ∧ LnOk ls ∧ NoNl ls ∧ (∀ hs tx n L, cutM ls = some (hs, tx, n) → Acc hs tx L → P (.tup [L.d, .int ((n : Nat) : Int)])) ∧
  ((∀ hs tx n L, cutM ls = some (hs, tx, n) → ¬ Acc hs tx L) → ∀ z, P (.tup [.non, .int z]))
theorem ok__law_read (T : Txt w K mg C CB) : CallOk Pr w K mg base CX0 7 "_law_read" ["_law_lines"] (spP K C (fReadL)) := by
  have c__law_read_value := @ok__law_read_value Pr w K mg base C CB T
  refine T.d__law_read.ok sc__law_read (fun vs H Q E h => len_P Fn1.len h) (fun f cdv A outer s H vs Q E hr h => ⟨_, (pss_cons (ps_set (i := 1) sc__law_read.nd rfl (.inl rfl) (pe_lst pa_nil))
      (pss_cons (ps_set (i := 2) sc__law_read.nd rfl (.inl rfl) (pe_lst pa_nil))
      (pss_cons (ps_set (i := 3) sc__law_read.nd rfl (.inl rfl) pe_int)
      (pss_cons (ps_for PassesOwn.never rfl (pi_range1 rfl T.n_range (pa_cons (pe_callB cLen (by rfl) T.n_len bb_len (pa_cons (pv 0) pa_nil)) pa_nil)) (pg_name (i := 4) sc__law_read.nd rfl (.inl rfl))
      (pss_cons (ps_set (i := 5) sc__law_read.nd rfl (.inl rfl) (pe_ix ix_list (pv 0) (pv 4) (fun _ _ => rfl)))
      (pss_one (ps_if (PW.pt (pw_and (pt_cmpR op_eq (pv 3) pe_int (nomark _)) (pw_and1 (pt_cmpR op_eq (pe_slice sl_str (pv 5) po_none (po_some pe_int)) pe_str (nomark _))))) (pss_one (ps_expr (pe_bm PySem.F.plainAttrs_list PySem.F.slot_list_append PySem.F.type_list_append mt_append (pv 2) (pa_cons (pe_slice sl_str (pv 5) (po_some pe_int) po_none) pa_nil)))) (pss_one (ps_if (PW.pt (pw_and (pt_cmpR op_eq (pv 3) pe_int (nomark _)) (pw_and1 (pt_cmpR op_eq (pv 5) pe_str (nomark _))))) (pss_one (ps_ret (pe_tup (pa_cons (pe_cal c__law_read_value (hr.mono (by decide)) pass0 (pa_cons (pv 1) (pa_cons (pv 2) pa_nil))) (pa_cons (pe_op op_add (pv 4) pe_int) pa_nil))))) (pss_one (ps_if (pt_cmpR op_eq (pv 3) pe_int (nomark _)) (pss_one (ps_ret (pe_tup (pa_cons pe_non (pa_cons pe_int pa_nil))))) (pss_one (ps_if (pt_cmpR op_eq (pv 5) pe_str (nomark _)) (pss_one (ps_set (i := 3) sc__law_read.nd rfl (.inl rfl) pe_int)) (pss_one (ps_if (pt_cmpR op_ne (pe_ix ix_str (pv 5) pe_int (fun _ _ => rfl)) pe_str (nomark _)) (pss_one (ps_expr (pe_bm PySem.F.plainAttrs_list PySem.F.slot_list_append PySem.F.type_list_append mt_append (pv 1) (pa_cons (pv 5) pa_nil)))) (pss_one (ps_if (pt_cmpR (op_eqD hr.units) (pv 1) (pe_lst pa_nil) (nomark _)) (pss_one (ps_ret (pe_tup (pa_cons pe_non (pa_cons pe_int pa_nil))))) (pss_one (ps_asg (pe_op oAddS (pe_ix ix_list (pv 1) (pe_op op_sub (pe_callB cLen (by rfl) T.n_len bb_len (pa_cons (pv 1) pa_nil)) pe_int) (fun _ _ => rfl)) (pv 5)) (pg_sub (pv 1) (pe_op op_sub (pe_callB cLen (by rfl) T.n_len bb_len (pa_cons (pv 1) pa_nil)) pe_int) set_list)))))))))))))))))
      (pss_one (ps_ret (pe_tup (pa_cons pe_non (pa_cons pe_int pa_nil))))))))), body_P h fun ds P hf => ?_⟩)
  obtain ⟨_, rfl, ls, rfl, hL, hN, yes, no⟩ := hf
  refine ⟨Nat.le_of_ble_eq_true rfl, ?_⟩
  show WS _ _ [.dat (.lst (ls.map .str)), .un, .un, .un, .un, .un] _ _ _ _
  try dsimp only [cxOf]
  have bad : cutM ls = none → ∀ z, P (.tup [.non, .int z]) := fun h => no fun hs tx n L hc => by rw [h] at hc; cases hc
  have hlen := hL.len
  walk_at "w"
  rw [List.length_map]
  refine ForInv.mk (fun i τ' => ∃ hs rows st s4 s5, τ' = [.dat (.lst (ls.map .str)), .own hs, .own rows, .dat (.int st), s4, s5] ∧
    ((st = 0 ∧ rows = [] ∧ (∀ l ∈ ls.take i, l ≠ ("" : Str)) ∧ unfL [] (ls.take i) = some hs) ∨
     (st = 1 ∧ ∃ j, j < i ∧ rows = ((ls.drop (j + 1)).take (i - (j + 1))).map rest1 ∧ (∀ l ∈ ls.take j, l ≠ ("" : Str)) ∧ ls[j]? = some ("" : Str) ∧ unfL [] (ls.take j) = some hs ∧ ∀ l ∈ (ls.drop (j + 1)).take (i - (j + 1)), fst1 l = "|")))
    ⟨[], [], 0, _, _, rfl, .inl ⟨rfl, rfl, fun l h => (nomatch h), rfl⟩⟩ (fun i d τ' hd hI => ?_) (fun τ' hI => ?_)
  · obtain ⟨hs, rows, st, s4, s5, rfl, hI⟩ := hI
    obtain ⟨hi, rfl⟩ := rgD_get hd
    obtain ⟨l, hl⟩ : ∃ l, ls[i]? = some l := ⟨_, List.getElem?_eq_getElem (by omega)⟩
    have hm := List.mem_of_getElem? hl
    have hl1 := hL.line hm
    have hl2 : l.length ≤ 100000 := by omega
    have a1 : atI (ls.map D.str) (0 + ((i : Nat) : Int)) = some (.str l) := by
      rw [show (0 : Int) + ((i : Nat) : Int) = ((i : Nat) : Int) by omega]; exact atI_map hl
    have t1 : ls.take (i + 1) = ls.take i ++ [l] := by rw [List.take_add_one, hl]; rfl
    rcases hI with ⟨rfl, rfl, hne, hU⟩ | ⟨rfl, j, hj, hrow, hne, hje, hU, hb⟩
    · obtain ⟨u1, u2⟩ := unf_heads (hL.sub (List.take_sublist i ls)) hU
      refine wg_name (Nat.le_of_ble_eq_true rfl) ?_
      walk_at "w"
      refine od_ixL a1 ?_
      walk_at "w"
      by_cases c : l = ""
      · have e1 : decide (l = Str.ofString "") = true := decide_eq_true c
        walk_at "w"
        refine .inr ⟨rfl, i, by omega, ?_, hne, by rw [hl, c], hU, fun x hx => ?_⟩
        · rw [Nat.sub_self]; rfl
        · rw [Nat.sub_self] at hx; cases hx
      · have e1 : decide (l = Str.ofString "") = false := decide_eq_false c
        have hne' : ∀ x ∈ ls.take (i + 1), x ≠ ("" : Str) := fun x hx => by
          rw [t1] at hx
          rcases List.mem_append.mp hx with z | z
          · exact hne x z
          · rw [List.mem_singleton.mp z]; exact c
        obtain ⟨ch, r, hch⟩ : ∃ ch r, TL.tl l = ch :: r := by
          cases e : TL.tl l with
          | nil => exact absurd (TL.ext_tl (by rw [e]; rfl)) c
          | cons a b => exact ⟨a, b, rfl⟩
        have hat : atI l.cps.toList 0 = some ch := by
          have : atI (TL.tl l) 0 = some ch := by rw [hch]; exact atI_nat (j := 0) rfl
          exact this
        refine if_is e1 (if_f ?_)
        walk_at "w"
        refine od_ixS hl2 hat ?_
        walk_at "w"
        rw [← fst1_head hch]
        by_cases cs : fst1 l = " "
        · have e2 : (!decide (fst1 l = Str.ofString " ")) = false := by rw [decide_eq_true cs]; rfl
          refine if_is e2 (if_f ?_)
          refine ws_ifF (wt_frz ?_)
          walk_at "w"
          refine od_eqD (shp_strs fun s hs' => (u2 s hs').1.2) (shp_strs (ss := []) (fun _ h => nomatch h)) ?_
          rw [show (D.lst ([] : List D)) = D.lst (([] : List Str).map .str) from rfl, eqv_strs hs []]
          by_cases c0 : hs = []
          · refine ⟨_, rfl, if_is (decide_eq_true c0) (if_t ?_)⟩
            walk_at "w"
            refine bad (cutM_none_unf ?_) _
            obtain ⟨r, hr⟩ := pre_more hne'
            rw [hr, t1, unfL_app, unfL_app, hU, c0]
            show (match (match unfStep [] l with | none => none | some a => unfL a []) with | none => none | some x => unfL x r) = none
            rw [unf_bad cs]
          · obtain ⟨x, hx1, hx2⟩ := getD_at (d := Str.empty) c0
            have hx3 := (u2 x (List.mem_of_getElem? hx1)).2
            have hpos : 0 < hs.length := List.length_pos_iff.mpr c0
            have hal : atI (hs.map D.str) ((((hs.map D.str).length : Nat) : Int) - 1) = some (.str x) := atI_last (by rw [List.length_map, List.getElem?_map, hx1]; rfl)
            refine ⟨_, rfl, if_is (decide_eq_false c0) (if_f ?_)⟩
            walk_at "w"
            refine od_ixL hal ?_
            walk_at "w"
            refine ⟨_, hs.length - 1, rfl, by rw [List.length_map]; exact ixN_last hpos, ?_⟩
            walk_at "w"
            refine .inl ⟨rfl, rfl, hne', ?_⟩
            rw [t1, unfL_app, hU]
            show unfL hs [l] = _
            rw [unfL_cons, unf_yes cs c0, hx2]
            rfl
        · have e2 : (!decide (fst1 l = Str.ofString " ")) = true := by rw [decide_eq_false cs]; rfl
          walk_at "w"
          refine .inl ⟨rfl, rfl, hne', ?_⟩
          rw [t1, unfL_app, hU]
          show unfL hs [l] = _
          rw [unfL_cons, unf_no cs]
          rfl
    · obtain ⟨u1, u2⟩ := unf_heads (hL.sub (List.take_sublist j ls)) hU
      have hi' : (ls.drop (j + 1))[i - (j + 1)]? = some l := by rw [List.getElem?_drop, ← hl]; congr 1; omega
      have t2 : (ls.drop (j + 1)).take (i + 1 - (j + 1)) = (ls.drop (j + 1)).take (i - (j + 1)) ++ [l] := by
        rw [show i + 1 - (j + 1) = i - (j + 1) + 1 by omega, List.take_add_one, hi']; rfl
      have hsub : ((ls.drop (j + 1)).take (i - (j + 1))).Sublist ls := (List.take_sublist _ _).trans (List.drop_sublist _ _)
      obtain ⟨R, eR⟩ : ∃ R, R = (ls.drop (j + 1)).take (i - (j + 1)) := ⟨_, rfl⟩
      have hcut : fst1 l ≠ "|" → l ≠ "." → cutM ls = none := fun q1 q2 => cutM_other hne hje hb hi' q1 q2
      have hdot : l = "." → cutM ls = some (hs, txR (R.map rest1), j + 1 + (i - (j + 1)) + 1) := fun q => by
        rw [q] at hi'
        rw [eR]
        exact cutM_dot hne hje hb hi' hU
      rw [← eR] at hrow hb t2 hsub
      subst hrow
      have hR := hL.sub hsub
      have hR1 := hR.len
      obtain ⟨j1, j2⟩ := join_rows hb hR
      refine wg_name (Nat.le_of_ble_eq_true rfl) ?_
      walk_at "w"
      refine od_ixL a1 ?_
      walk_at "w"
      by_cases cb : fst1 l = "|"
      · have e1 : decide (fst1 l = Str.ofString "|") = true := decide_eq_true cb
        refine if_is e1 (if_t ?_)
        walk_at "w"
        refine .inr ⟨rfl, j, by omega, ?_, hne, hje, hU, ?_⟩
        · rw [t2, List.map_append]; rfl
        · rw [t2]
          intro x hx
          rcases List.mem_append.mp hx with z | z
          · exact hb x z
          · rw [List.mem_singleton.mp z]; exact cb
      · have e1 : decide (fst1 l = Str.ofString "|") = false := decide_eq_false cb
        refine if_is e1 (if_f ?_)
        walk_at "w"
        by_cases cd : l = "."
        · have e2 : decide (l = Str.ofString ".") = true := decide_eq_true cd
          have hd := hdot cd
          refine if_is e2 (if_t ?_)
          walk_at "w"
          refine ⟨hs, R.map rest1, rfl, rfl, u1, u2, ?_, ?_, ?_, j2, ?_, fun L hA => ?_, fun hno => ?_⟩
          · rw [List.length_map]; omega
          · have := sum_rest hb
            have := hR.sum
            omega
          · intro x hx c hc
            obtain ⟨z, hz, rfl⟩ := List.mem_map.mp hx
            rw [rest1_tl] at hc
            exact hR.ch z hz c (List.mem_of_mem_drop hc)
          · intro x hx hc
            obtain ⟨z, hz, rfl⟩ := List.mem_map.mp hx
            rw [rest1_tl] at hc
            exact hN z (hsub.subset hz) (List.mem_of_mem_drop hc)
          · refine g_WA ?_
            walk_at "w"
            refine PtoD (yes _ _ _ L hd hA) ?_
            rw [show ((j + 1 + (i - (j + 1)) + 1 : Nat) : Int) = 0 + ((i : Nat) : Int) + 1 by omega]
          · refine g_WA ?_
            walk_at "w"
            refine no (fun hs' tx n L hc hA => ?_) _
            rw [hd] at hc
            cases hc
            exact hno L hA
        · have e2 : decide (l = Str.ofString ".") = false := decide_eq_false cd
          refine if_is e2 (if_f ?_)
          walk_at "w"
          exact bad (hcut cb cd) _
  · obtain ⟨hs, rows, st, s4, s5, rfl, hI⟩ := hI
    rw [rgD_len] at hI
    walk_at "w"
    rcases hI with ⟨rfl, rfl, hne, hU⟩ | ⟨rfl, j, hj, hrow, hne, hje, hU, hb⟩
    · rw [List.take_of_length_le (by omega)] at hne
      exact bad (cutM_end0 hne) _
    · rw [List.take_of_length_le (by rw [List.length_drop]; omega)] at hb
      exact bad (cutM_end1 hne hje hb) _
end
end
section
open PySem PySem.Spec PyProof.Rows L2
open Evl (Ex ex_rd ex_l ex_t)
open CwR
set_option autoImplicit false
local macro_rules | `(tactic| walk_at "fld") => `(tactic| first | with_reducible refine wp_author (by assumption) (by assumption) ?_ | with_reducible refine wp_number (by assumption) (by assumption) ?_ | with_reducible refine wp_stamp (by assumption) (by assumption) ?_ | with_reducible refine wp_seen (by assumption) (by assumption) ?_ | with_reducible refine wp_body (by assumption) (by assumption) ?_)

section
variable {Pr : Program} {w : World} {K : PySem.W.Frag} {mg : Str → Option Value} {base : Heap} {C CB : Addr}
abbrev fReadM : FnX := FnX2 fun d e P PE => ∃ (ls : List Str) (a : Nat), d = .lst (ls.map .str) ∧ e = .int (a : Nat) ∧ LnOk ls ∧ (∀ hs tx n L, cutM (ls.drop a) = some (hs, tx, n) → Acc hs tx L → P (.tup [L.l, .int ((a + n : Nat) : Int)])) ∧
  ((∀ hs tx n L, cutM (ls.drop a) = some (hs, tx, n) → ¬ Acc hs tx L) → PE)
def restD : D → D
  | .str x => .str (rest1 x)
  | d => d
theorem map_restD (ws : List Str) : (ws.map D.str).map restD = (ws.map rest1).map .str := by rw [List.map_map, List.map_map]; rfl
theorem FnX1.mk {P : D → Prop} {PE : Prop} {d : D} {p : D → (D → Prop) → Prop → Prop} (h : p d P PE) : FnX1 p [d] P PE := ⟨d, rfl, h⟩
theorem FnX2.mk {P : D → Prop} {PE : Prop} {d e : D} {p : D → D → (D → Prop) → Prop → Prop} (h : p d e P PE) : FnX2 p [d, e] P PE := ⟨d, e, rfl, h⟩
theorem ok_read_mail (T : Txt w K mg C CB) : CallOk Pr w K mg base (L2.CX Pr w) 6 "read_mail" ["lines", "at"] (spX K C CB (fReadM)) := by
  have c_head_end := @ok_head_end Pr w K mg base C CB T
  have c_read_headers := @ok_read_headers Pr w K mg base C CB T
  have c_text_end := @ok_text_end Pr w K mg base C CB T
  have c_unfold := @ok_unfold Pr w K mg base C CB T
  refine T.d_read_mail.okX sc_read_mail (fun vs H Q E h => len_X FnX2.len h) (fun f cdv A outer s H vs Q E hr h => ⟨_, (pss_cons (ps_set (i := 2) sc_read_mail.nd rfl (.inl rfl) (pe_cal c_head_end (hr.mono (by decide)) pass0 (pa_cons (pv 0) (pa_cons (pv 1) pa_nil))))
      (pss_cons (ps_set (i := 3) sc_read_mail.nd rfl (.inl rfl) (pe_cal c_text_end (hr.mono (by decide)) pass0 (pa_cons (pv 0) (pa_cons (pe_op op_add (pv 2) pe_int) pa_nil))))
      (pss_cons (ps_if (PW.pt (pw_or (pt_cmpR op_ge (pv 3) (pe_callB cLen (by rfl) T.n_len bb_len (pa_cons (pv 0) pa_nil)) (nomark _)) (pw_or1 (pt_cmpR op_ne (pe_ix ix_list (pv 0) (pv 3) (fun _ _ => rfl)) (pe_gs T.c_LAST) (nomark _))))) (pss_one (ps_raise rfl (takes_of rfl rfl rfl rfl) (pmk_bm T))) pss_nil)
      (pss_cons (ps_set (i := 4) sc_read_mail.nd rfl (.inl rfl) pe_non)
      (pss_cons (ps_if (pt_cmpR op_gt (pv 3) (pe_op op_add (pv 2) pe_int) (nomark _)) (pss_one (ps_set (i := 4) sc_read_mail.nd rfl (.inl rfl) (pe_m1 PySem.F.slot_str_join PySem.F.type_str_join mJoin pe_str (pe_lc (own := [("line", 6)]) (g := gName 6) (tt := tYes) rfl sc_read_mail.nd (pi_list (pe_slice sl_list (pv 0) (po_some (pe_op op_add (pv 2) pe_int)) (po_some (pv 3)))) (blkOk_by (own := [("line", 6)]) (N := N_read_mail) (sc := defScope s_read_mail) (by decide +kernel)) (fun _ _ _ _ _ => pg_name (i := 6) sc_read_mail.nd rfl (Or.inl rfl)) (fun _ _ _ _ _ => pts_nil) (fun _ _ _ _ _ => (pe_slice sl_str (pv 6) (po_some pe_int) po_none)))))) pss_nil)
      (pss_cons (ps_set (i := 5) sc_read_mail.nd rfl (.inl rfl) (pe_cal c_read_headers (hr.mono (by decide)) (passes_call (takes_of rfl rfl rfl rfl) (fun _ _ _ _ h => h)) (pa_cons (pe_cal c_unfold (hr.mono (by decide)) (passes_call (takes_of rfl rfl rfl rfl) (fun _ _ _ _ h => h)) (pa_cons (pe_slice sl_list (pv 0) (po_some (pv 1)) (po_some (pv 2))) pa_nil)) (pa_cons (pv 4) pa_nil))))
      (pss_one (ps_ret (pe_tup (pa_cons (pv 5) (pa_cons (pe_op op_add (pv 3) pe_int) pa_nil))))))))))), body_X h fun ds P PE hf => ?_⟩)
  obtain ⟨_, _, rfl, ls, a, rfl, rfl, hL, p, pe⟩ := hf
  refine ⟨Nat.le_of_ble_eq_true rfl, ?_⟩
  show WS _ _ [.dat (.lst (ls.map .str)), .dat (.int (a : Nat)), .un, .un, .un, .un, .un] _ _ _ _
  try dsimp only [cxOf]
  have hb : ∀ l ∈ ls, l.length ≤ 50000 := fun l hl => Nat.le_trans (hL.line hl) (by decide)
  obtain ⟨M, eM⟩ : ∃ M, M = ls.drop a := ⟨_, rfl⟩
  rw [← eM] at p pe
  have hM : LnOk M := by rw [eM]; exact hL.sub (List.drop_sublist _ _)
  have e1 : headE ls a = a + (preM M).length := by rw [eM]; rfl
  have e2 : textE ls (a + (preM M).length + 1) = a + (preM M).length + 1 + (rowsM M).length := by
    show _ + ((ls.drop (a + (preM M).length + 1)).takeWhile _).length = _
    unfold rowsM
    rw [eM, List.drop_drop]
    rfl
  refine ws_seq ?_
  refine ws_asg ?_
  refine wp_call (wa_cons (wp_var rfl (wa_cons (wp_var rfl (wa_nil (Fn2.mk ⟨ls, a, rfl, rfl, ?_⟩))))))
  rw [e1]
  refine wg_name (Nat.le_of_ble_eq_true rfl) ?_
  refine ws_seq ?_
  refine ws_asg ?_
  refine wp_call (wa_cons (wp_var rfl (wa_cons ?_)))
  refine wp_op (wp_var rfl (wp_int (od_int (wa_nil (Fn2.mk ⟨ls, a + (preM M).length + 1, rfl, rfl, hb, ?_⟩)))))
  rw [e2]
  refine wg_name (Nat.le_of_ble_eq_true rfl) ?_
  have eg : ∀ k : Nat, M[k]? = ls[a + k]? := fun k => by rw [eM, List.getElem?_drop]
  have hno : ¬ ls[a + ((preM M).length + 1 + (rowsM M).length)]? = some "." → cutM M = none := fun h => by
    unfold cutM
    rw [if_neg (by rw [eg]; exact h)]
  have en : a + ((preM M).length + 1 + (rowsM M).length) = a + (preM M).length + 1 + (rowsM M).length := by omega
  rw [en] at hno
  obtain ⟨m, em⟩ : ∃ m, m = a + (preM M).length := ⟨_, rfl⟩
  obtain ⟨n, eN⟩ : ∃ n, n = m + 1 + (rowsM M).length := ⟨_, rfl⟩
  rw [← em] at hno e1 e2 en ⊢
  rw [← eN] at hno e2 en ⊢
  walk_at "w"
  rw [List.length_map]
  by_cases c1 : ls.length ≤ n
  · have d1 : decide ((ls.length : Int) ≤ (n : Nat)) = true := by simp [c1]
    refine if_is d1 (if_t ?_)
    refine if_t ?_
    refine ws_raise (pe fun hs tx k L hc => ?_)
    rw [hno (by rw [List.getElem?_eq_none c1]; intro z; cases z)] at hc
    cases hc
  · have d1 : decide ((ls.length : Int) ≤ (n : Nat)) = false := by simp; omega
    refine if_is d1 (if_f ?_)
    obtain ⟨l, hl⟩ : ∃ l, ls[n]? = some l := ⟨_, List.getElem?_eq_getElem (by omega)⟩
    walk_at "w"
    refine od_ixL (atI_map hl) ?_
    walk_at "w"
    by_cases c2 : l = "."
    · have d2 : (!decide (l = Str.ofString ".")) = false := by simp [c2]
      refine if_is d2 (if_f ?_)
      subst c2
      have hk : n = a + ((preM M).length + 1 + (rowsM M).length) := by omega
      have hcut : cutM M = (match unfL [] (preM M) with | some hs => some (hs, txM M, (preM M).length + 1 + (rowsM M).length + 1) | none => none) := by
        unfold cutM
        rw [if_pos (by rw [eg, ← hk]; exact hl)]
        all_goals (cases unfL [] (preM M) <;> rfl)
      have hpre : (ls.drop a).take (m - a) = preM M := by
        rw [← eM, em, Nat.add_sub_cancel_left]; exact tw_take M
      have hrow : (ls.drop (m + 1)).take (n - (m + 1)) = rowsM M := by
        have : ls.drop (m + 1) = M.drop ((preM M).length + 1) := by rw [eM, List.drop_drop, em, eM]; congr 1
        rw [this, eN, Nat.add_sub_cancel_left]
        exact tw_take _
      have hP : LnOk (preM M) := hM.sub (tw_sub _)
      have hR : LnOk (rowsM M) := hM.sub ((tw_sub _).trans (List.drop_sublist _ _))
      obtain ⟨j1, j2⟩ := join_rows (rowsM_bar M) hR
      -- the header lines read, the text at slot 4
      have fin : ∀ (s6 : Sl) (Pn : List Sl → Prop), WS ⟨K, C, GX CB E PE⟩ (tSeq (tAsg (tCall (spX K C CB fReadH) [] E (tCons (tCall (spX K C CB fUnf) [] E (tCons (tSl (rSlL K) (tVar 0) (tPart (tVar 1)) (tPart (tVar 2))) tNil)) (tCons (tVar 4) tNil))) (gName 5))
          (tRet (tTup (tCons (tVar 5) (tCons (tOp (rI0 fun i j => .int (i + j)) (tVar 3) (tC (.int 1))) tNil))))) [.dat (.lst (ls.map .str)), .dat (.int (a : Nat)), .dat (.int (m : Nat)), .dat (.int (n : Nat)), .dat (txO (txM M)), .un, s6] P Pn NoS NoS := fun s6 Pn => by
        refine ws_seq ?_
        refine ws_asg ?_
        refine wp_callE (wa_cons ?_)
        refine wp_callE (wa_cons ?_)
        refine wp_slL (wp_var rfl ⟨_, rfl, wo_some (wp_var rfl ⟨_, rfl, wo_some (wp_var rfl ⟨_, rfl, ?_⟩)⟩)⟩)
        rw [cutD_nat, ← List.map_drop, ← List.map_take, hpre]
        refine wa_nil ⟨_, FnX1.mk ⟨preM M, rfl, Nat.le_trans hP.sum (by decide), Nat.le_trans hP.len (by decide), fun hs hu => ?_, id⟩, fun hu => pe fun hs tx k L hc => ?_⟩
        · obtain ⟨u1, u2⟩ := unf_heads hP hu
          rw [hu] at hcut
          refine wa_cons (wp_var rfl (wa_nil ⟨_, FnX2.mk ⟨hs, txM M, rfl, rfl, u1, u2, fun t ht => ?_, fun L hA => ?_, id⟩, fun hno => pe fun hs' tx k L hc => ?_⟩))
          · unfold txM at ht
            split at ht
            · cases ht
            · cases ht; exact j2
          · refine wg_name (Nat.le_of_ble_eq_true rfl) ?_
            refine ws_ret (wp_tup (wa_cons (wp_var rfl (wa_cons (wp_op (wp_var rfl (wp_int (od_int (wa_nil ⟨Nat.le_of_ble_eq_true rfl, ?_⟩)))))))))
            have := p hs (txM M) _ L hcut hA
            refine PtoD this ?_
            have : ((a + ((preM M).length + 1 + (rowsM M).length + 1) : Nat) : Int) = ((n : Nat) : Int) + 1 := by omega
            rw [this]
          · rw [hcut] at hc
            cases hc
            exact hno L
        · rw [hcut, hu] at hc
          cases hc
      walk_at "w"
      by_cases c3 : rowsM M = []
      · have d3 : decide (((m : Nat) : Int) + 1 < ((n : Nat) : Int)) = false := by
          rw [c3] at eN
          simp only [List.length_nil] at eN
          simp; omega
        refine if_is d3 (if_f (ws_next ?_))
        have et : txM M = none := by unfold txM; rw [if_pos c3]
        have := fin .un
        rw [et] at this
        exact this _
      · have d3 : decide (((m : Nat) : Int) + 1 < ((n : Nat) : Int)) = true := by
          have : 0 < (rowsM M).length := List.length_pos_iff.mpr c3
          simp; omega
        refine if_is d3 (if_t ?_)
        walk_at "w"
        have ec : cutD (ls.map .str) (some (((m : Nat) : Int) + 1)) (some ((n : Nat) : Int)) = (rowsM M).map .str := by
          have := cutD_nat (ls.map .str) (m + 1) n
          rw [← List.map_drop, ← List.map_take, hrow] at this
          exact this
        rw [ec]
        refine LcInv.map restD ?la ?lb (fun i d hd => ?_) ?_
        case la => exact Nat.le_of_ble_eq_true rfl
        case lb => rw [List.length_map]; have := hR.len; omega
        · have hd := List.mem_of_getElem? hd
          obtain ⟨r, hr, rfl⟩ := List.mem_map.mp hd
          have hr1 := hR.line hr
          walk_at "w"
          rfl
        · rw [map_restD]
          have j3 : ((rowsM M).map rest1 |>.map (·.length)).sum + ((rowsM M).map rest1).length * (Str.ofString "\n").length ≤ 16777216 := Nat.le_trans j1 (by decide)
          refine md_joinL j3 ?_
          refine wg_name (Nat.le_of_ble_eq_true rfl) ?_
          have et : txM M = some (Txt.join "\n" ((rowsM M).map rest1)) := by unfold txM; rw [if_neg c3]
          have := fin .un
          rw [et] at this
          exact this _
    · have d2 : (!decide (l = Str.ofString ".")) = true := by simp [c2]
      refine if_is d2 (if_t ?_)
      refine ws_raise (pe fun hs tx k L hc => ?_)
      rw [hno (by rw [hl]; intro z; cases z; exact c2 rfl)] at hc
      cases hc
end
end
section
open PySem PySem.Spec PyProof.Rows L2
open Evl (Ex ex_rd ex_l ex_t)
open CwR
set_option autoImplicit false
open Bod (NmOk NuOk TtOk TxOk)
section
variable {Pr : Program} {w : World} {K : PySem.W.Frag} {mg : Str → Option Value} {base : Heap} {C CB : Addr}
abbrev fLawIs : Fn := Fn2 fun d e P => ∃ i j : Int, d = .int i ∧ e = .int j ∧ P (.bl (decide (i = j)))
abbrev fCell : Fn := Fn2 fun d e P => ∃ (ns : List Int) (k : Nat), d = .scr ns ∧ e = .int (k : Nat) ∧ ∀ i : Int, P (.int i)
abbrev fNext : Fn := Fn1 fun d P => ∃ n : Int, d = .int n ∧ 0 < n ∧ n < 1073741824 ∧ AllInt (fun r => 0 ≤ r ∧ r < n) P
abbrev fNumber : Fn := Fn0 fun P => AllInt NuOk P
abbrev fName : Fn := Fn0 fun P => AllStr NmOk P
theorem ok__law_is (T : Txt w K mg C CB) : CallOk Pr w K mg base CX0 1 "_law_is" ["_law_actual", "_law_due"] (spP K C (fLawIs)) := by
  refine T.d__law_is.ok sc__law_is (fun vs H Q E h => len_P Fn2.len h) (fun f cdv A outer s H vs Q E hr h => ⟨_, (pss_one (ps_ret (pe_and (pe_callB call_isi (by rfl) T.n_isinstance bb_isinstance (pa_cons (pv 0) (pa_cons (pe_bltn (v := .ty "int") (by rfl) T.n_int bb_int rfl) pa_nil))) (pe_and (pe_not (pe_callB call_isi (by rfl) T.n_isinstance bb_isinstance (pa_cons (pv 0) (pa_cons (pe_bltn (v := .ty "bool") (by rfl) T.n_bool bb_bool rfl) pa_nil)))) (pe_one (pe_cmpR op_eq (pv 0) (pv 1) (nomark _))))))), body_P h fun ds P hf => ?_⟩)
  obtain ⟨_, _, rfl, i, j, rfl, rfl, p⟩ := hf
  refine ⟨Nat.le_of_ble_eq_true rfl, ?_⟩
  show WS _ _ [.dat (.int i), .dat (.int j)] _ _ _ _
  try dsimp only [cxOf]
  walk_at "w"
  exact p
theorem ok__law_cell (T : Txt w K mg C CB) : CallOk Pr w K mg base CX0 1 "_law_cell" ["_law_script", "_law_k"] (spP K C (fCell)) := by
  refine T.d__law_cell.ok sc__law_cell (fun vs H Q E h => len_P Fn2.len h) (fun f cdv A outer s H vs Q E hr h => ⟨_, (pss_cons (ps_if (pt_cmpR op_lt (pv 1) (pe_callB cLen (by rfl) T.n_len bb_len (pa_cons (pv 0) pa_nil)) (nomark _)) (pss_one (ps_ret (pe_ix ix_list (pv 0) (pv 1) (fun _ _ => rfl)))) pss_nil)
      (pss_one (ps_ret pe_int))), body_P h fun ds P hf => ?_⟩)
  obtain ⟨_, _, rfl, ns, k, rfl, rfl, p⟩ := hf
  refine ⟨Nat.le_of_ble_eq_true rfl, ?_⟩
  show WS _ _ [.dat (.scr ns), .dat (.int (k : Nat))] _ _ _ _
  try dsimp only [cxOf]
  walk_at "w"
  refine if_2 (fun h1 => ?_) (fun h1 => ?_)
  · have h1 := of_decide_eq_true h1
    have hk : k < ns.length := by omega
    walk_at "w"
    refine od_ixScr (n := ns[k]) (atI_nat (by rw [List.getElem?_map, List.getElem?_eq_getElem hk]; rfl)) ?_
    exact p _
  · walk_at "w"
    exact p _
theorem ok__law_next (T : Txt w K mg C CB) : CallOk Pr w K mg base CX0 1 "_law_next" ["_law_stream_here", "_law_size"] (spG K C (fNext)) := by
  refine T.d__law_next.ok sc__law_next (fun vs H Q E h => len_G Fn1.len h) (fun f cdv A outer s H vs Q E hr h => ⟨_, (pss_cons (ps_if (pt_cmpR op_gt (pe_ix ix_list (pv 0) pe_int (fun _ _ => rfl)) pe_int (nomark _)) (pss_cons (ps_set (i := 2) sc__law_next.nd rfl (.inl rfl) (pe_op op_mod (pe_callTy cInt1 (by rfl) T.n_int bb_int (pa_cons (pe_ix ix_list (pv 0) pe_int (fun _ _ => rfl)) pa_nil)) (pv 1)))
      (pss_cons (ps_asg (pe_op op_fdiv (pe_ix ix_list (pv 0) pe_int (fun _ _ => rfl)) (pv 1)) (pg_sub (pv 0) pe_int set_list))
      (pss_one (ps_ret (pv 2))))) pss_nil)
      (pss_cons (ps_asg (pe_op op_mod (pe_callTy cInt1 (by rfl) T.n_int bb_int (pa_cons (pe_op op_add (pe_op op_mul (pe_ix ix_list (pv 0) pe_int (fun _ _ => rfl)) pe_int) pe_int) pa_nil)) pe_int) (pg_sub (pv 0) pe_int set_list))
      (pss_one (ps_ret (pe_op op_mod (pe_callTy cInt1 (by rfl) T.n_int bb_int (pa_cons (pe_op op_fdiv (pe_op op_mod (pe_callTy cInt1 (by rfl) T.n_int bb_int (pa_cons (pe_op op_add (pe_op op_mul (pe_ix ix_list (pv 0) pe_int (fun _ _ => rfl)) pe_int) pe_int) pa_nil)) pe_int) pe_int) pa_nil)) (pv 1)))))), body_G h fun ds P hf => ?_⟩)
  obtain ⟨_, rfl, n, rfl, h1, h2, p⟩ := hf
  refine ⟨Nat.le_of_ble_eq_true rfl, ?_⟩
  show WS _ _ [.strm, .dat (.int n), .un] _ _ _ _
  try dsimp only [cxOf]
  walk_at "w"
  refine if_2 (fun h3 => ?_) (fun h3 => ?_)
  · walk_at "w"
    exact p _ ⟨Int.emod_nonneg _ (by omega), Int.emod_lt_of_pos _ h1⟩
  · walk_at "w"
    exact p _ ⟨Int.emod_nonneg _ (by omega), Int.emod_lt_of_pos _ h1⟩
theorem nuOk_of {i : Int} (h : 1 ≤ i ∧ i ≤ 1000000000000000000) : NuOk i := by
  show (decide (1 ≤ i) && decide (i ≤ 1000000000000000000)) = true
  simp [h.1, h.2]
theorem ok__law_number (T : Txt w K mg C CB) : CallOk Pr w K mg base CX0 2 "_law_number" ["_law_stream_here"] (spG K C (fNumber)) := by
  have c__law_next := @ok__law_next Pr w K mg base C CB T
  refine T.d__law_number.ok sc__law_number (fun vs H Q E h => len_G Fn0.len h) (fun f cdv A outer s H vs Q E hr h => ⟨_, (pss_cons (ps_set (i := 1) sc__law_number.nd rfl (.inl rfl) (pe_cal c__law_next (hr.mono (by decide)) pass0 (pa_cons (pv 0) (pa_cons pe_int pa_nil))))
      (pss_cons (ps_if (pt_cmpR op_eq (pv 1) pe_int (nomark _)) (pss_one (ps_ret pe_int)) pss_nil)
      (pss_cons (ps_if (pt_cmpR op_eq (pv 1) pe_int (nomark _)) (pss_one (ps_ret (pe_op op_sub (pe_op op_pow pe_int pe_int) (pe_cal c__law_next (hr.mono (by decide)) pass0 (pa_cons (pv 0) (pa_cons pe_int pa_nil)))))) pss_nil)
      (pss_cons (ps_if (pt_cmpR op_eq (pv 1) pe_int (nomark _)) (pss_one (ps_ret (pe_op op_add (pe_op op_add pe_int (pe_op op_mul (pe_cal c__law_next (hr.mono (by decide)) pass0 (pa_cons (pv 0) (pa_cons (pe_op op_pow pe_int pe_int) pa_nil))) (pe_op op_pow pe_int pe_int))) (pe_cal c__law_next (hr.mono (by decide)) pass0 (pa_cons (pv 0) (pa_cons (pe_op op_pow pe_int pe_int) pa_nil)))))) pss_nil)
      (pss_one (ps_ret (pe_op op_add pe_int (pe_cal c__law_next (hr.mono (by decide)) pass0 (pa_cons (pv 0) (pa_cons pe_int pa_nil)))))))))), body_G h fun ds P hf => ?_⟩)
  obtain ⟨rfl, p⟩ := hf
  refine ⟨Nat.le_of_ble_eq_true rfl, ?_⟩
  show WS _ _ [.strm, .un] _ _ _ _
  try dsimp only [cxOf]
  walk_at "w"
  refine if_2 (fun h3 => ?_) (fun h3 => ?_)
  · walk_at "w"
    exact p _ (nuOk_of (by omega))
  · walk_at "w"
    refine if_2 (fun h4 => ?_) (fun h4 => ?_)
    · walk_at "w"
      exact p _ (nuOk_of (by omega))
    · walk_at "w"
      refine if_2 (fun h5 => ?_) (fun h5 => ?_)
      · walk_at "w"
        exact p _ (nuOk_of (by omega))
      · walk_at "w"
        exact p _ (nuOk_of (by omega))
end
end
section
open PySem PySem.Spec PyProof.Rows L2
open Evl (Ex ex_rd ex_l ex_t)
open CwR
set_option autoImplicit false
open Bod (NmOk NuOk TtOk TxOk)
/-! what read_mail hands back is a letter; that it raises is seen. -/
theorem tx_ch {t : Str} (h : TxOk t) : ∀ c ∈ TL.tl t, c < 128 := fun c hc => by
  have h : (decide (1 ≤ t.length) && (decide (t.length ≤ 400) && plainL ((TL.tl t).filter fun c => !decide (c = 10)))) = true := h
  simp only [Bool.and_eq_true, decide_eq_true_eq] at h
  by_cases e : c = 10
  · omega
  · have := List.all_eq_true.mp h.2.2 c (List.mem_filter.mpr ⟨hc, by simp [e]⟩)
    unfold plCh at this
    simp only [Bool.and_eq_true, decide_eq_true_eq] at this
    omega
theorem nm_sm {x : Str} (h : NmOk x) : StrS x := ⟨Nat.le_trans (nm_len h) (by decide), nm_ch128 h⟩
theorem tx_sm {x : Str} (h : TxOk x) : StrS x := ⟨Nat.le_trans (tx_len h) (by decide), tx_ch h⟩
theorem tt_sm {x : Str} (h : TtOk x) : StrS x := ⟨Nat.le_trans (tt_len h) (by decide), tt_ch h⟩
theorem sm_ref {x : Str} {n : Int} (h : NmOk x) : Sm (refD x n) := ⟨(by decide : 2 ≤ 50000), nm_sm h, trivial, trivial⟩
theorem lits {s : Str} (h1 : Nat.ble s.length 10 = true) (h2 : (TL.tl s).all (· < 128) = true) : Sm (.str s) := lit_sm (Nat.le_of_ble_eq_true h1) h2
theorem sm_names {ms : List Str} (h : ms.length ≤ 15) (g : ∀ m ∈ ms, NmOk m) : Sm (.tup (ms.map .str)) := ⟨by rw [List.length_map]; omega, SmL.strs fun m hm => nm_sm (g m hm)⟩
theorem sm_bod : ∀ {b : Bod}, b.ok → Sm b.d
  | .found t ms, h => sm_three (lits (s := "found") rfl (by decide +kernel)) (tt_sm h.1) (sm_names h.2.1 h.2.2.1)
  | .say t, h => sm_two (lits (s := "say") rfl (by decide +kernel)) (tx_sm h)
  | .reply x n t, h => sm_three (lits (s := "reply") rfl (by decide +kernel)) (sm_ref h.1.1) (tx_sm h.2)
  | .edit x n t, h => sm_three (lits (s := "edit") rfl (by decide +kernel)) (sm_ref h.1.1) (tx_sm h.2)
  | .recall x n, h => sm_two (lits (s := "recall") rfl (by decide +kernel)) (sm_ref h.1)
  | .mark x n w, h => sm_three (lits (s := "mark") rfl (by decide +kernel)) (sm_ref h.1.1) (nm_sm h.2)
  | .title t, h => sm_two (lits (s := "title") rfl (by decide +kernel)) (tt_sm h)
  | .add x, h => sm_two (lits (s := "add") rfl (by decide +kernel)) (nm_sm h)
  | .cut x, h => sm_two (lits (s := "cut") rfl (by decide +kernel)) (nm_sm h)
  | .hand x, h => sm_two (lits (s := "hand") rfl (by decide +kernel)) (nm_sm h)
  | .seen, h => sm_one (lits (s := "seen") rfl (by decide +kernel))
theorem sm_ltr {L : Ltr} (h : L.ok) (hl : L.es.length ≤ 50000) : Sm L.d :=
  ⟨(by decide : 5 ≤ 50000), nm_sm h.a, trivial, trivial, ⟨by rw [List.length_map]; exact hl, SmL.of fun d hd => by
    obtain ⟨p, hp, rfl⟩ := List.mem_map.mp hd
    exact sm_ref (h.es p hp).1⟩, sm_bod h.b, trivial⟩
theorem dep_ref {x : Str} {n : Int} : (refD x n).py.depth ≤ 1 := dep_tup (n := 0) fun d hd => by
  simp only [List.mem_cons, List.not_mem_nil, or_false] at hd
  rcases hd with rfl | rfl
  · exact dep_str
  · exact dep_int
theorem dep_bod (b : Bod) : b.d.py.depth ≤ 3 := dep_tup (n := 2) fun d hd => by
  have es : ∀ {x : Str}, (D.str x).py.depth ≤ 2 := Nat.le_trans dep_str (by decide)
  have er : ∀ {x : Str} {n : Int}, (refD x n).py.depth ≤ 2 := Nat.le_trans dep_ref (by decide)
  have en : ∀ {ms : List Str}, (D.tup (ms.map .str)).py.depth ≤ 2 := Nat.le_trans (dep_tup (n := 0) fun d hd => by
    obtain ⟨s, _, rfl⟩ := List.mem_map.mp hd
    exact dep_str) (by decide)
  rcases List.mem_cons.mp hd with rfl | hd
  · exact es
  · revert hd
    cases b <;> intro hd <;> simp only [Bod.parts, List.mem_cons, List.not_mem_nil, or_false] at hd
    · rcases hd with rfl | rfl
      · exact es
      · exact en
    · subst hd; exact es
    · rcases hd with rfl | rfl
      · exact er
      · exact es
    · rcases hd with rfl | rfl
      · exact er
      · exact es
    · subst hd; exact er
    · rcases hd with rfl | rfl
      · exact er
      · exact es
    · subst hd; exact es
    · subst hd; exact es
    · subst hd; exact es
    · subst hd; exact es
theorem dep_ltr (L : Ltr) : L.d.py.depth ≤ 64 := Nat.le_trans (dep_tup (n := 3) fun d hd => by
  simp only [List.mem_cons, List.not_mem_nil, or_false] at hd
  rcases hd with rfl | rfl | rfl | rfl | rfl
  · exact Nat.le_trans dep_str (by decide)
  · exact Nat.le_trans dep_int (by decide)
  · exact Nat.le_trans dep_int (by decide)
  · exact Nat.le_trans (dep_tup (n := 1) fun d hd => by
      obtain ⟨p, _, rfl⟩ := List.mem_map.mp hd
      exact dep_ref) (by decide)
  · exact dep_bod L.b) (by decide)
theorem pure_bod (b : Bod) : b.d.pure = true := by
  cases b with
  | found t ms =>
    show (true && (true && (D.pureL (ms.map .str) && true))) = true
    rw [pureL_of (ds := ms.map D.str) fun d hd => by
      obtain ⟨s, _, rfl⟩ := List.mem_map.mp hd
      rfl]
    rfl
  | _ => rfl
theorem pure_ltr (L : Ltr) : L.d.pure = true := by
  show (true && (true && (true && (D.pureL (L.es.map fun p => refD p.1 p.2) && (L.b.d.pure && true))))) = true
  rw [pureL_of (ds := L.es.map fun p => refD p.1 p.2) fun d hd => by
      obtain ⟨s, _, rfl⟩ := List.mem_map.mp hd
      rfl, pure_bod]
  rfl
theorem eqv_ltr (L : Ltr) : PyData.eqv L.d.py L.d.py = true := (eqv_iff _ _ (pure_ltr L) (pure_ltr L)).mpr rfl
theorem acc_inj {hs : List Str} {tx : Option Str} {L M : Ltr} (h : Acc hs tx L) (g : Acc hs tx M) : L = M := by
  have e1 := cand_back L h.1
  have e2 := cand_back M g.1
  have e3 : L.b.txtD = M.b.txtD := by rw [txO_d, txO_d, h.2.2, g.2.2]
  rw [h.2.1, e3] at e1
  rw [g.2.1] at e2
  exact ltr_inj (e1.symm.trans e2)
theorem cutM_unf {ls hs : List Str} {tx : Option Str} {k : Nat} (h : cutM ls = some (hs, tx, k)) : unfL [] (preM ls) = some hs := by
  unfold cutM at h
  split at h
  · cases e : unfL [] (preM ls) with
    | none => rw [e] at h; cases h
    | some x =>
      rw [e] at h
      cases h
      rfl
  · cases h
theorem acc_es {ls hs : List Str} {tx : Option Str} {k : Nat} {L : Ltr} (hL : LnOk ls) (h : cutM ls = some (hs, tx, k)) (g : Acc hs tx L) : L.es.length ≤ 50000 := by
  obtain ⟨_, u⟩ := unf_heads (hL.sub (tw_sub _)) (cutM_unf h)
  have hm : "Seen: " ++ seenS L.es ∈ hs := by
    rw [← g.2.1]
    unfold Ltr.hdr
    simp
  have h1 := (u _ hm).2
  have hne : L.es ≠ [] := fun z => by have := g.1.me; rw [z] at this; cases this
  have h2 := (split_parts (seenS L.es) ", " (fun z => by cases z) (by decide +kernel)).1
  rw [split_seen hne g.1.es, List.length_map] at h2
  rw [slen_app] at h1
  omega
theorem wp_isiC {B : Bx} {τ : List Sl} {P : D → Prop} {te : TE} (cl : Cls B.K B.C) (ha : PySem.W.findIn B.K (.ref B.C) "__class__" = some (some (.builtin "object.__class__")))
    (hn : PySem.W.specialIn B.K (.builtin "object.__class__") "__get__" = some (some (.builtin "getset_descriptor.__get__"))) (htk : PySem.W.takesIn B.K (.builtin "object.__class__") = some true) (hm : PySem.W.mroIn B.K B.C (.type "object") = some true)
    (hk : PySem.W.kitOne B.K (.ref B.C) (.ref B.C) = some true) (h : WP B te τ fun d => ∃ a n s e b, d = .ltr a n s e b ∧ P (.bl true)) : WP B (tCB (rIsi B.K) (tCons te (tCons (tC (.ref B.C)) tNil))) τ P := fun m O0 H0 A σ H hG R Q q => by
  refine h m O0 H0 A σ H hG R _ fun v H1 d s1 r1 h1 => ?_
  obtain ⟨a, n, s, e, b, ed, p⟩ := h1
  subst ed
  obtain ⟨x, dx, va, vn, vs, ve, vb, ev, hx, _⟩ := r1
  subst ev
  exact ⟨_, _, _, _, _, rfl, .own _, .base (.ins (Er.sub _ _ hx) cl ha hn htk hm), hk, q (.bl true) H1 (.bl true) s1 rfl p⟩
local macro_rules | `(tactic| walk_at "w1") => `(tactic| (with_reducible refine g_WP ?_); (with_reducible refine wp_isiC (by assumption) (by assumption) (by assumption) (by assumption) (by assumption) (by assumption) ?_))
section
variable {X : Cx} {k : Nat} {ps : List Str} {sp : Sp} {W : WX} {x : Str} {p pos : Pos} {e : Expr} {es : List Expr} {t : TA}
theorem pe_gref {a : Addr} (h : X.mg x = some (.ref a)) (hg : Gl X x := by rfl) (hd : (x == ("__debug__" : Str)) = false := by decide) : PE X (.Name x pos) (tC (.ref a)) := pe_glob hg h rfl hd
theorem passX0 : Passes (L2.CX X.prog X.w) X E0 := passes_call (W := fun _ _ _ _ => False) takes0 (fun _ _ _ _ h => h)
theorem pe_calS (F : CallOk X.prog X.w X.K X.mg X.base (L2.CX X.prog X.w) k x ps sp) (hr : Room k X.A) (tk : Takes X W) (ha : PA X (e :: es) t) (hg : Gl X x := by rfl) (hdb : (x == ("__debug__" : Str)) = false := by decide)
    (he : starEach (e :: es) X.env = (false, eval e X.env) :: starEach es X.env := by rfl) (hpl : (backTo pos (starEach es X.env)).any (·.1) = false := by rfl) : PE X (.Call (.Name x p) (e :: es) [] pos) (tCallS sp (WE W) t) := by
  obtain ⟨f, fd, F, g, kp, b⟩ := F
  exact pe_callS F hr hg g kp b (fun σ => passAt tk σ) ha hdb he hpl
/-- isinstance of the error that the suite holds, one of D's, without fields of its own -/
def rIsE' (K : PySem.W.Frag) (D a : Addr) (cls : Value) (d : Option Addr) : List V → Hp → VK → Prop := fun xs H Q => cls = .ref D ∧ d = none ∧ rIsE K D a xs H Q
theorem call_isE' {a D : Addr} {oe : Obj} {pn : List (Addr × Obj)} {cls : Value} {d : Option Addr} (E : ExcC X.K D) (hz : Zc cls d oe) (hf : ∃ vs, oe.data = .fields vs) : CallR (X.suite a ((a, oe) :: pn)) (.builtin "isinstance") (rIsE' X.K D a cls d) := by
  intro pins s σ H xs us Q I r h
  obtain ⟨h1, h2, h⟩ := h
  subst h1
  subst h2
  exact call_isE E hz hf pins s σ H xs us Q I r h
end
/-- the suite of _law_raises -/
def tsR (K : PySem.W.Frag) (CB rL : Addr) : Addr → Value → Option Addr → TS := fun a cls d => tRet (tAndV (tCB (rIsE' K CB a cls d) (tCons (tVar 2) (tCons (tC (.ref CB)) tNil))) (tAndV (tCB (rIsE' K CB a cls d) (tCons (tVar 2) (tCons (tC (.ty "ValueError")) tNil)))
  (tNotV (tCB (rIsE' K CB a cls d) (tCons (tVar 2) (tCons (tC (.ref rL)) tNil))))))
section
variable {Pr : Program} {w : World} {K : PySem.W.Frag} {mg : Str → Option Value} {base : Heap} {C CB : Addr}
abbrev fReads : Fn := Fn4 fun d e v n P => ∃ (ls : List Str) (a k : Nat) (L : Ltr) (hs : List Str) (tx : Option Str), d = .lst (ls.map .str) ∧ e = .int (a : Nat) ∧ v = L.d ∧ n = .int ((a + k : Nat) : Int) ∧ LnOk ls ∧ cutM (ls.drop a) = some (hs, tx, k) ∧ Acc hs tx L ∧ P (.bl true)
abbrev fRaises : Fn := Fn2 fun d e P => ∃ (ls : List Str) (a : Nat), d = .lst (ls.map .str) ∧ e = .int (a : Nat) ∧ LnOk ls ∧ (∀ hs tx n L, cutM (ls.drop a) = some (hs, tx, n) → ¬ Acc hs tx L) ∧ P (.bl true)
theorem ok__law_reads (T : Txt w K mg C CB) : CallOk Pr w K mg base CX0 7 "_law_reads" ["_law_lines", "_law_at", "_law_value_here", "_law_end"] (spP K C (fReads)) := by
  have c__law_is := @ok__law_is Pr w K mg base C CB T
  have c_read_mail := @ok_read_mail Pr w K mg base C CB T
  have c_value := @ok_value Pr w K mg base C CB T
  refine T.d__law_reads.ok sc__law_reads (fun vs H Q E h => len_P Fn4.len h) (fun f cdv A outer s H vs Q E hr h => ⟨_, (pss_cons (ps_set (i := 4) sc__law_reads.nd rfl (.inl rfl) (pe_callTy cListO (by rfl) T.n_list bb_list (pa_cons (pv 0) pa_nil)))
      (pss_cons (ps_set (i := 5) sc__law_reads.nd rfl (.inl rfl) (pe_cal c_read_mail (hr.mono (by decide)) passX0 (pa_cons (pv 4) (pa_cons (pv 1) pa_nil))))
      (pss_cons (ps_if (PW.pt (pw_or (pt_not (pt_val (pe_callB call_isi (by rfl) T.n_isinstance bb_isinstance (pa_cons (pv 5) (pa_cons (pe_bltn (v := .ty "tuple") (by rfl) T.n_tuple bb_tuple rfl) pa_nil))))) (pw_or (pt_cmpR op_ne (pe_callB cLen (by rfl) T.n_len bb_len (pa_cons (pv 5) pa_nil)) pe_int (nomark _)) (pw_or (pt_cmpR (op_neD hr.units) (pv 4) (pv 0) (nomark _)) (pw_or1 (pt_not (pt_val (pe_callB call_isi (by rfl) T.n_isinstance bb_isinstance (pa_cons (pe_ix ix_tup (pv 5) pe_int (fun _ _ => rfl)) (pa_cons (pe_gref T.g_Letter) pa_nil)))))))))) (pss_one (ps_ret pe_bl)) pss_nil)
      (pss_one (ps_ret (pe_and (pe_cmpR (op_eqD hr.units) (pe_vl c_value T.lcls (pe_ix ix_tup (pv 5) pe_int (fun _ _ => rfl)) (hr.mono (by decide))) (pv 2) (nomark _)) (pe_one (pe_cal c__law_is (hr.mono (by decide)) pass0 (pa_cons (pe_ix ix_tup (pv 5) pe_int (fun _ _ => rfl)) (pa_cons (pv 3) pa_nil)))))))))), body_P h fun ds P hf => ?_⟩)
  obtain ⟨_, _, _, _, rfl, ls, a, k, L, hs, tx, rfl, rfl, rfl, rfl, hL, hc, hA, p⟩ := hf
  obtain ⟨z, ez⟩ : ∃ z : Int, z = ((a + k : Nat) : Int) := ⟨_, rfl⟩
  rw [← ez]
  refine ⟨Nat.le_of_ble_eq_true rfl, ?_⟩
  show WS _ _ [.dat (.lst (ls.map .str)), .dat (.int (a : Nat)), .dat L.d, .dat (.int z), .un, .un] _ _ _ _
  try dsimp only [cxOf]
  have l0 := T.lcls
  have l1 := T.l_class
  have l2 := T.l_get
  have l3 := T.l_tak
  have l4 := T.l_mro
  have l5 := T.l_kit
  have sh := shp_strs hL.ch
  have sL := (sm_ltr hA.1 (acc_es (hL.sub (List.drop_sublist _ _)) hc hA)).shp (dep_ltr L)
  walk_at "w"
  refine wp_callX (wa_cons (wp_var rfl (wa_cons (wp_var rfl (wa_nil ⟨False, FnX2.mk ⟨ls, a, rfl, rfl, hL, fun hs' tx' n' L' hc' hA' => ?_, fun hno => hno hs tx k L hc hA⟩, fun z => z.elim⟩)))))
  rw [hc] at hc'
  cases hc'
  have eL := acc_inj hA hA'
  subst eL
  refine g_WG ?_
  walk_at "w"
  refine od_neD sh sh ?_
  rw [eqv_strs ls ls, decide_eq_true rfl]
  walk_at "w"
  refine od_eqD sL sL ?_
  rw [eqv_ltr L]
  walk_at "w"
  refine ⟨_, _, rfl, rfl, PtoD p ?_⟩
  rw [ez, decide_eq_true rfl]
theorem ok__law_raises (T : Txt w K mg C CB) : CallOk Pr w K mg base CX0 7 "_law_raises" ["_law_lines", "_law_at"] (spP K C (fRaises)) := by
  have c_read_mail := @ok_read_mail Pr w K mg base C CB T
  obtain ⟨rE, gRE, xRE⟩ := T.g_RoomError
  obtain ⟨rL, gBL, xBL⟩ := T.g_BadLetter
  refine T.d__law_raises.ok sc__law_raises (fun vs H Q E h => len_P Fn2.len h) (fun f cdv A outer s H vs Q E hr h => ⟨_, pss_cons (ps_try_as (i := 2) (tb := fun W => tDrop (tCallS (spX K C CB fReadM) (WE W) (tCons (tVar 0) (tCons (tVar 1) tNil)))) (ts := tsR K CB rL) (Wout := fun _ _ _ _ => False) rfl rfl sc__law_raises.nd rfl rfl ⟨rfl, by decide, .inl gRE⟩ takes0
    (fun W pn xe tk _ => pss_one (ps_expr (by exact (pe_calS c_read_mail (hr.mono (by decide)) tk (by exact (pa_cons (pv 0) (pa_cons (pv 1) pa_nil)))))))
    (fun a oe cls d pn hz hf => pss_one (ps_ret (by exact (pe_and (pe_callB (call_isE' T.bexc hz hf) rfl T.n_isinstance bb_isinstance (pa_cons (pv 2) (pa_cons (pe_gref T.g_BadMail) pa_nil)))
      (pe_and (pe_callB (call_isE' T.bexc hz hf) rfl T.n_isinstance bb_isinstance (pa_cons (pv 2) (pa_cons (pe_bltn (v := .ty "ValueError") (by rfl) T.n_ValueError bb_ValueError rfl) pa_nil)))
        (pe_one (pe_not (pe_callB (call_isE' T.bexc hz hf) rfl T.n_isinstance bb_isinstance (pa_cons (pv 2) (pa_cons (pe_gref gBL) pa_nil)))))))))))
    (pss_one (ps_ret pe_bl)), ?_⟩)
  obtain ⟨O, ds, P, dom, rl, hf, q⟩ := h
  obtain ⟨_, _, rfl, ls, a, rfl, rfl, hL, no, p⟩ := hf
  obtain ⟨v0, r0, rfl, h0, v1, r1, rfl, h1, rfl⟩ := rl
  refine ⟨v0, rfl, v1, rfl, O, [.lst (ls.map .str), .int (a : Nat)], (fun _ => False), True, dom, ⟨v0, _, rfl, h0, v1, _, rfl, h1, rfl⟩, FnX2.mk ⟨ls, a, rfl, rfl, hL, fun hs tx n L hc hA => no hs tx n L hc hA, fun _ => trivial⟩, fun v H' d _ _ z => z.elim, fun _ H' ex => ?_⟩
  refine ⟨true, xRE, fun _ x hx => ?_, fun z => by cases z⟩
  refine ⟨.ref x, rfl, rfl, rfl, .ref CB, .ref CB, true, rfl, fun u r => r, T.b_BadMail, true, rfl, iteT ?_⟩
  refine ⟨.ref x, rfl, rfl, rfl, .ty "ValueError", .type "ValueError", true, rfl, fun u r => r, T.b_ValueError, true, rfl, iteT ?_⟩
  refine ⟨.ref x, rfl, rfl, rfl, .ref rL, .ref rL, false, rfl, fun u r => r, xBL, false, rfl, ?_⟩
  exact q (.bl true) H' (.bl true) ex rfl p
end
end
section
open PySem PySem.Spec PyProof.Rows L2
open Evl (Ex ex_rd ex_l ex_t)
open CwR
set_option autoImplicit false
open Bod (NmOk NuOk TtOk TxOk)
local macro_rules | `(tactic| walk_at "own") => `(tactic| with_reducible refine ws_newL (Nat.le_of_ble_eq_true rfl) ?_)
theorem LcInv.mapP {B : Bx} {τ : List Sl} {te : TE} {j k : Nat} {P : D → Prop} {es : List (Str × Int)} (f : Str × Int → D) (hj : j < τ.length) (hk : k < τ.length) (hn : j ≠ k) (h : es.length ≤ 100000)
    (hs : ∀ p ∈ es, WP B te ((τ.set j (.dat (.str p.1))).set k (.dat (.int p.2))) fun y => y = f p) (hp : P (.lst (es.map f))) : LcInv B (gTup B.K 2 (gCons (gName j) (gCons (gName k) gNil))) tYes te [j, k] τ P (es.map fun p => refD p.1 p.2) := by
  refine .mk (by rw [List.length_map]; exact h) (fun i acc => acc = (es.take i).map f) (by simp) (fun i d acc hd hI => ?_) (fun acc hI => ?_)
  · rw [List.getElem?_map] at hd
    obtain ⟨p, hp', rfl⟩ := Option.map_eq_some_iff.mp hd
    refine wgw_pair (by show j < ((τ.set k .un).set j .un).length; rw [List.length_set, List.length_set]; exact hj) (by show k < ((τ.set k .un).set j .un).length; rw [List.length_set, List.length_set]; exact hk) hn (wt_yes ⟨fun _ => ?_, fun z => by cases z⟩)
    have e : ((wipeS τ [j, k]).set j (.dat (.str p.1))).set k (.dat (.int p.2)) = (τ.set j (.dat (.str p.1))).set k (.dat (.int p.2)) := by
      show ((((τ.set k .un).set j .un).set j (.dat (.str p.1))).set k (.dat (.int p.2))) = _
      rw [List.set_set, List.set_comm _ _ (Ne.symm hn), List.set_set]
    rw [e]
    refine (hs p (List.mem_of_getElem? hp')).imp fun y ey => ?_
    subst ey
    show acc ++ [f p] = (es.take (i + 1)).map f
    rw [show acc = _ from hI, List.take_add_one, hp']; simp
  · rw [hI, List.length_map, List.take_length]; exact hp
theorem spl_count : ∀ (l acc : List Nat), (TL.spl [10] 0 acc l).length = l.count 10 + 1
  | [], acc => by rw [TL.spl_nil]; rfl
  | c :: r, acc => by
    by_cases h : c = 10
    · subst h
      have hp : TL.pre [10] (10 :: r) = true := TL.pre_self [10] r
      rw [TL.spl_hit hp]
      show (TL.spl [10] 0 [] r).length + 1 = _
      rw [spl_count r [], List.count_cons]; simp
    · have hp : TL.pre [10] (c :: r) = false := TL.pre_of_head [] r h
      rw [TL.spl_miss hp, spl_count r (acc ++ [c]), List.count_cons]
      simp [h]
theorem split_nl_len (t : Str) : (((Txt.split t "\n").length : Nat) : Int) = Txt.count t "\n" + 1 := by
  have e := TL.split_spl t "\n" (fun z => by cases z) (TL.kind_ok (by decide +kernel))
  have h := congrArg List.length e
  rw [List.length_map] at h
  rw [h, count_nl]
  show (((TL.spl [10] 0 [] (TL.tl t)).length : Nat) : Int) = _
  rw [spl_count]; omega
section
variable {Pr : Program} {w : World} {K : PySem.W.Frag} {mg : Str → Option Value} {base : Heap} {C CB : Addr}
abbrev fHdrL : Fn := Fn1 fun d P => ∃ L : Ltr, d = L.d ∧ L.ok ∧ L.es.length ≤ 47 ∧ P (.lst (L.hdr.map .str))
theorem ok__law_text_of (T : Txt w K mg C CB) : CallOk Pr w K mg base CX0 1 "_law_text_of" ["_law_body_here"] (spP K C (fTextOf)) := by
  refine T.d__law_text_of.ok sc__law_text_of (fun vs H Q E h => len_P Fn1.len h) (fun f cdv A outer s H vs Q E hr h => ⟨_, (pss_cons (ps_if (pt_cmpR op_in_seq (pe_ix ix_tup (pv 0) pe_int (fun _ _ => rfl)) (pe_lst (pa_cons pe_str (pa_cons pe_str (pa_cons pe_str pa_nil)))) (by rfl)) (pss_one (ps_ret (pe_ix ix_tup (pv 0) (pe_op op_sub (pe_callB cLen (by rfl) T.n_len bb_len (pa_cons (pv 0) pa_nil)) pe_int) (fun _ _ => rfl)))) pss_nil)
      (pss_one (ps_ret pe_non))), body_P h fun ds P hf => ?_⟩)
  obtain ⟨_, rfl, b, rfl, p⟩ := hf
  refine ⟨Nat.le_of_ble_eq_true rfl, ?_⟩
  show WS _ _ [.dat b.d] _ _ _ _
  try dsimp only [cxOf]
  cases b <;> walk_at "w" <;> exact p
theorem split_log {t : Str} (h : t.length ≤ 400) : ((((Txt.split t (Str.ofString "\n")).map D.str).length : Nat) : Int).natAbs.log2 < 1920 ∧ (Str.ofString (toString ((((Txt.split t (Str.ofString "\n")).map D.str).length : Nat) : Int))).length ≤ 19 ∧
    (Str.ofString "Lines: ") ++ Str.ofString (toString ((((Txt.split t (Str.ofString "\n")).map D.str).length : Nat) : Int)) = linesS t := by
  have e : ((((Txt.split t (Str.ofString "\n")).map D.str).length : Nat) : Int) = Txt.count t (Str.ofString "\n") + 1 := by rw [List.length_map]; exact split_nl_len t
  have h1 := cnt_bound h
  rw [e]
  exact ⟨log_ok h1.1 (by omega), numS_len (n := Txt.count t (Str.ofString "\n") + 1) h1.1 (by omega), rfl⟩
theorem ref_raw (w x : Str) (n : Int) : w ++ refS x n = w ++ x ++ Str.ofString " " ++ Str.ofString (toString n) := by
  unfold refS
  simp only [sapp]
  rfl
theorem ok__law_header (T : Txt w K mg C CB) : CallOk Pr w K mg base CX0 2 "_law_header" ["_law_value_here"] (spP K C (fHdrL)) := by
  have c__law_text_of := @ok__law_text_of Pr w K mg base C CB T
  refine T.d__law_header.ok sc__law_header (fun vs H Q E h => len_P Fn1.len h) (fun f cdv A outer s H vs Q E hr h => ⟨_, (pss_cons (ps_asg (pv 0) (pg_tup rfl (pgs_cons (pg_name (i := 1) sc__law_header.nd rfl (.inl rfl)) (pgs_cons (pg_name (i := 2) sc__law_header.nd rfl (.inl rfl)) (pgs_cons (pg_name (i := 3) sc__law_header.nd rfl (.inl rfl)) (pgs_cons (pg_name (i := 4) sc__law_header.nd rfl (.inl rfl)) (pgs_cons (pg_name (i := 5) sc__law_header.nd rfl (.inl rfl)) pgs_nil)))))))
      (pss_cons (ps_set (i := 6) sc__law_header.nd rfl (.inl rfl) (pe_m1 PySem.F.slot_str_join PySem.F.type_str_join mJoin pe_str (pe_lc (own := [("_law_name_here", 9), ("_law_count", 10)]) (g := gTup K 2 (gCons (gName 9) (gCons (gName 10) gNil))) (tt := tYes) rfl sc__law_header.nd (pi_tup (pv 4)) (blkOk_by (own := [("_law_name_here", 9), ("_law_count", 10)]) (N := N__law_header) (sc := defScope s__law_header) (by decide +kernel)) (fun _ _ _ _ _ => pg_tup rfl (pgs_cons (pg_name (i := 9) sc__law_header.nd rfl (.inl rfl)) (pgs_cons (pg_name (i := 10) sc__law_header.nd rfl (.inl rfl)) pgs_nil))) (fun _ _ _ _ _ => pts_nil) (fun _ _ _ _ _ => (pe_op oAddS (pe_op oAddS (pv 9) pe_str) (pe_callTy cStrI (by rfl) T.n_str bb_str (pa_cons (pv 10) pa_nil)))))))
      (pss_cons (ps_set (i := 7) sc__law_header.nd rfl (.inl rfl) (pe_ix ix_tup (pv 5) pe_int (fun _ _ => rfl)))
      (pss_cons (ps_set (i := 8) sc__law_header.nd rfl (.inl rfl) (pe_lst (pa_cons (pe_op oAddS (pe_op oAddS (pe_op oAddS pe_str (pv 1)) pe_str) (pe_callTy cStrI (by rfl) T.n_str bb_str (pa_cons (pv 2) pa_nil))) (pa_cons (pe_op oAddS pe_str (pe_callTy cStrI (by rfl) T.n_str bb_str (pa_cons (pv 3) pa_nil))) (pa_cons (pe_op oAddS pe_str (pv 6)) (pa_cons (pe_op oAddS pe_str (pv 7)) pa_nil))))))
      (pss_cons (ps_if (pt_cmpR op_in_seq (pv 7) (pe_lst (pa_cons pe_str (pa_cons pe_str pa_nil))) (by rfl)) (pss_one (ps_expr (pe_bm PySem.F.plainAttrs_list PySem.F.slot_list_append PySem.F.type_list_append mt_append (pv 8) (pa_cons (pe_op oAddS pe_str (pe_ix ix_tup (pv 5) pe_int (fun _ _ => rfl))) pa_nil)))) pss_nil)
      (pss_cons (ps_if (pt_cmpR op_eq (pv 7) pe_str (nomark _)) (pss_one (ps_expr (pe_bm PySem.F.plainAttrs_list PySem.F.slot_list_append PySem.F.type_list_append mt_append (pv 8) (pa_cons (pe_op oAddS pe_str (pe_m1 PySem.F.slot_str_join PySem.F.type_str_join mJoin pe_str (pe_ix ix_tup (pv 5) pe_int (fun _ _ => rfl)))) pa_nil)))) pss_nil)
      (pss_cons (ps_if (pt_cmpR op_in_seq (pv 7) (pe_lst (pa_cons pe_str (pa_cons pe_str (pa_cons pe_str (pa_cons pe_str pa_nil))))) (by rfl)) (pss_one (ps_expr (pe_bm PySem.F.plainAttrs_list PySem.F.slot_list_append PySem.F.type_list_append mt_append (pv 8) (pa_cons (pe_op oAddS (pe_op oAddS (pe_op oAddS pe_str (pe_ix ix_tup (pe_ix ix_tup (pv 5) pe_int (fun _ _ => rfl)) pe_int (fun _ _ => rfl))) pe_str) (pe_callTy cStrI (by rfl) T.n_str bb_str (pa_cons (pe_ix ix_tup (pe_ix ix_tup (pv 5) pe_int (fun _ _ => rfl)) pe_int (fun _ _ => rfl)) pa_nil))) pa_nil)))) pss_nil)
      (pss_cons (ps_if (pt_cmpR op_in_seq (pv 7) (pe_lst (pa_cons pe_str (pa_cons pe_str (pa_cons pe_str pa_nil)))) (by rfl)) (pss_one (ps_expr (pe_bm PySem.F.plainAttrs_list PySem.F.slot_list_append PySem.F.type_list_append mt_append (pv 8) (pa_cons (pe_op oAddS pe_str (pe_callTy cStrI (by rfl) T.n_str bb_str (pa_cons (pe_callB cLen (by rfl) T.n_len bb_len (pa_cons (pe_m1 PySem.F.slot_str_split PySem.F.type_str_split mSplit (pe_cal c__law_text_of (hr.mono (by decide)) pass0 (pa_cons (pv 5) pa_nil)) pe_str) pa_nil)) pa_nil))) pa_nil)))) pss_nil)
      (pss_cons (ps_if (pt_cmpR op_eq (pv 7) pe_str (nomark _)) (pss_one (ps_expr (pe_bm PySem.F.plainAttrs_list PySem.F.slot_list_append PySem.F.type_list_append mt_append (pv 8) (pa_cons (pe_op oAddS pe_str (pe_ix ix_tup (pv 5) pe_int (fun _ _ => rfl))) pa_nil)))) pss_nil)
      (pss_cons (ps_if (pt_cmpR op_in_seq (pv 7) (pe_lst (pa_cons pe_str (pa_cons pe_str (pa_cons pe_str pa_nil)))) (by rfl)) (pss_one (ps_expr (pe_bm PySem.F.plainAttrs_list PySem.F.slot_list_append PySem.F.type_list_append mt_append (pv 8) (pa_cons (pe_op oAddS pe_str (pe_ix ix_tup (pv 5) pe_int (fun _ _ => rfl))) pa_nil)))) pss_nil)
      (pss_one (ps_ret (pv 8))))))))))))), body_P h fun ds P hf => ?_⟩)
  obtain ⟨_, rfl, L, rfl, ok, hl, p⟩ := hf
  obtain ⟨a, n, s, es, b⟩ := L
  have ok_a : NmOk a := ok.a
  have ok_n : NuOk n := ok.n
  have ok_s : NuOk s := ok.s
  have ok_es : ∀ p ∈ es, NmOk p.1 ∧ NuOk p.2 := ok.es
  have hb : b.ok := ok.b
  have hl : es.length ≤ 47 := hl
  refine ⟨Nat.le_of_ble_eq_true rfl, ?_⟩
  show WS _ _ [.dat (.tup [.str a, .int n, .int s, .tup (es.map fun p => refD p.1 p.2), b.d]), .un, .un, .un, .un, .un, .un, .un, .un, .un, .un] _ _ _ _
  try dsimp only [cxOf]
  have e1 : (Str.ofString "From: ").length = 6 := rfl
  have e2 : (Str.ofString "Stamp: ").length = 7 := rfl
  have e3 : (Str.ofString "Seen: ").length = 6 := rfl
  have e4 : (Str.ofString "Kind: ").length = 6 := rfl
  have e5 : (Str.ofString ", ").length = 2 := rfl
  have e6 : (Str.ofString " ").length = 1 := rfl
  have d1 : (Str.ofString "Title: ").length = 7 := rfl
  have d2 : (Str.ofString "Members: ").length = 9 := rfl
  have d3 : (Str.ofString "Ref: ").length = 5 := rfl
  have d4 : (Str.ofString "Lines: ").length = 7 := rfl
  have d5 : (Str.ofString "Word: ").length = 6 := rfl
  have d6 : (Str.ofString "Name: ").length = 6 := rfl
  have h1 := nm_len ok_a
  have h2 := nu_log ok_s
  have h2' := nu_log ok_n
  have nuS : ∀ {i : Int}, NuOk i → (Str.ofString (toString i)).length ≤ 19 := fun {i} h => by
    obtain ⟨m, em, h3, h4⟩ := numOk_nat h
    exact numS_len (n := i) (by omega) (by omega)
  have h5 := nuS ok_s
  have h5' := nuS ok_n
  have hk := kind_len b
  walk_at "w"
  refine LcInv.mapP (fun p => .str (refS p.1 p.2)) ?la ?lb (by decide) (by omega) (fun q hq => ?_) ?_
  case la => exact Nat.le_of_ble_eq_true rfl
  case lb => exact Nat.le_of_ble_eq_true rfl
  · obtain ⟨q1, q2⟩ := ok_es q hq
    have i1 := nm_len q1
    have i2 := nu_log q2
    have i3 := nuS q2
    walk_at "w"
    rfl
  · obtain ⟨ss, ess⟩ : ∃ ss : List Str, ss = es.map (fun p => refS p.1 p.2) := ⟨_, rfl⟩
    have hs := sum_len (n := 32) (ss := ss) fun s hs => by
      rw [ess] at hs
      obtain ⟨r, hr, rfl⟩ := List.mem_map.mp hs
      exact refS_len (ok_es r hr).1 (ok_es r hr).2
    have hsl : ss.length ≤ 47 := by rw [ess, List.length_map]; exact hl
    have eseen : seenS es = Txt.join ", " ss := by rw [ess]; rfl
    have em : (es.map fun p => D.str (refS p.1 p.2)) = ss.map .str := by rw [ess, List.map_map]; rfl
    rw [em]
    have hj : (ss.map (·.length)).sum + ss.length * (Str.ofString ", ").length ≤ 16777216 := by
      rw [e5]; omega
    have hj2 : (Txt.join (Str.ofString ", ") ss).length ≤ 2000 := by
      have := join_len (Str.ofString ", ") ss
      rw [e5] at this
      omega
    walk_at "w"
    refine ⟨["From: " ++ refS a n, "Stamp: " ++ numS s, "Seen: " ++ seenS es, "Kind: " ++ b.kind], by rw [eseen, ref_raw]; rfl, Nat.le_of_ble_eq_true rfl, ?_⟩
    have pp : ∀ X : List Str, X = b.lines → P (.lst ((["From: " ++ refS a n, "Stamp: " ++ numS s, "Seen: " ++ seenS es, "Kind: " ++ b.kind] ++ X).map .str)) := fun X e => by rw [e]; exact p
    have lnx : ∀ {t : Str}, TxOk t → t.length ≤ 90000 := fun h => Nat.le_trans (tx_len h) (by decide)
    cases b with
    | found t ms =>
      have g1 := tt_len hb.1
      have h2 : (ms.map (·.length)).sum + ms.length * (Str.ofString ", ").length ≤ 16777216 := by
        have := sum_len (n := 12) fun m hm => nm_len (hb.2.2.1 m hm)
        have := hb.2.1
        rw [e5]; omega
      have h3 : (Txt.join (Str.ofString ", ") ms).length ≤ 10000 := by
        have := sum_len (n := 12) fun m hm => nm_len (hb.2.2.1 m hm)
        have := hb.2.1
        have := join_len (Str.ofString ", ") ms
        rw [e5] at this; omega
      walk_at "w"
      exact pp ["Title: " ++ t, "Members: " ++ Txt.join ", " ms] rfl
    | say t =>
      obtain ⟨g1, g2, g3⟩ := split_log (tx_len hb)
      have g4 := lnx hb
      walk_at "w"
      exact pp [_] (by rw [g3]; rfl)
    | reply x i t =>
      obtain ⟨g1, g2, g3⟩ := split_log (tx_len hb.2)
      have g4 := lnx hb.2
      have g5 := nm_len hb.1.1
      have g6 := nuS hb.1.2
      have g7 := nu_log hb.1.2
      walk_at "w"
      exact pp [_, _] (by rw [g3, ← ref_raw]; rfl)
    | edit x i t =>
      obtain ⟨g1, g2, g3⟩ := split_log (tx_len hb.2)
      have g4 := lnx hb.2
      have g5 := nm_len hb.1.1
      have g6 := nuS hb.1.2
      have g7 := nu_log hb.1.2
      walk_at "w"
      exact pp [_, _] (by rw [g3, ← ref_raw]; rfl)
    | recall x i =>
      have g5 := nm_len hb.1
      have g6 := nuS hb.2
      have g7 := nu_log hb.2
      walk_at "w"
      exact pp [_] (by rw [← ref_raw]; rfl)
    | mark x i y =>
      have g5 := nm_len hb.1.1
      have g6 := nuS hb.1.2
      have g7 := nu_log hb.1.2
      have g8 := nm_len hb.2
      walk_at "w"
      exact pp [_, _] (by rw [← ref_raw]; rfl)
    | title t =>
      have g1 := tt_len hb
      walk_at "w"
      exact pp [_] rfl
    | add x =>
      have g1 := nm_len hb
      walk_at "w"
      exact pp [_] rfl
    | cut x =>
      have g1 := nm_len hb
      walk_at "w"
      exact pp [_] rfl
    | hand x =>
      have g1 := nm_len hb
      walk_at "w"
      exact pp [_] rfl
    | seen => walk_at "w"; exact pp [] rfl
end
end
section
open PySem PySem.Spec PyProof.Rows L2
open Evl (Ex ex_rd ex_l ex_t)
open CwR
set_option autoImplicit false
open Bod (NmOk NuOk TtOk TxOk)
/-! parts of a line that is folded. -/
theorem cutS_nat (z : Str) (i j : Nat) : TL.tl (cutS z (some (i : Nat)) (some (j : Nat))) = ((TL.tl z).drop i).take (j - i) := by
  rw [cutS_tl, HT.sIx_nat, HT.sIx_nat, TL.len_tl]
  by_cases hi : i ≤ (TL.tl z).length
  · rw [Nat.min_eq_left hi]
    by_cases hj : j ≤ (TL.tl z).length
    · rw [Nat.min_eq_left hj]
    · rw [Nat.min_eq_right (by omega), List.take_of_length_le (by rw [List.length_drop]; omega), List.take_of_length_le (by rw [List.length_drop]; omega)]
  · rw [Nat.min_eq_right (a := i) (by omega), List.drop_of_length_le (Nat.le_refl _), List.drop_of_length_le (by omega), List.take_nil, List.take_nil]
/-- parts of x's first n signs: none is empty, all but the first begin with a blank -/
structure Parts' (x : Str) (n : Nat) (ps : List Str) : Prop where
  cat : (ps.map TL.tl).flatten = (TL.tl x).take n
  ne : ∀ p ∈ ps, TL.tl p ≠ []
  sp : ∀ p ∈ ps.tail, (TL.tl p).head? = some 32
abbrev FoldOk (x : Str) (ps : List Str) : Prop := Parts' x x.length ps ∧ ps ≠ []
theorem parts_snoc {x p : Str} {n m : Nat} {ps : List Str} (h : Parts' x n ps) (hn : n < m) (hm : m ≤ x.length) (hp : TL.tl p = ((TL.tl x).drop n).take (m - n)) (hs : ps = [] ∨ (TL.tl x)[n]? = some 32) : Parts' x m (ps ++ [p]) := by
  have hlen : n < (TL.tl x).length := by rw [← TL.len_tl]; omega
  have hpn : TL.tl p ≠ [] := by
    rw [hp]
    intro z
    have := congrArg List.length z
    rw [List.length_take, List.length_drop] at this
    simp only [List.length_nil] at this
    omega
  refine ⟨?_, fun q hq => ?_, fun q hq => ?_⟩
  · rw [List.map_append, List.flatten_append, h.cat]
    simp only [List.map_cons, List.map_nil, List.flatten_cons, List.flatten_nil, List.append_nil]
    rw [hp]
    have : m = n + (m - n) := by omega
    rw [this, List.take_add, Nat.add_sub_cancel_left]
  · rcases List.mem_append.mp hq with z | z
    · exact h.ne q z
    · rw [List.mem_singleton.mp z]; exact hpn
  · cases ps with
    | nil => cases hq
    | cons a r =>
      have hq : q ∈ r ++ [p] := hq
      rcases List.mem_append.mp hq with z | z
      · exact h.sp q z
      · rw [List.mem_singleton.mp z]
        rcases hs with w | w
        · cases w
        · rw [hp]
          have : ((TL.tl x).drop n).head? = some 32 := by rw [List.head?_drop]; exact w
          cases e : (TL.tl x).drop n with
          | nil => rw [e] at this; cases this
          | cons c t =>
            rw [e] at this
            have hmn : m - n = (m - n - 1) + 1 := by omega
            rw [hmn, List.take_succ_cons]
            exact this
theorem parts_len {x : Str} {n : Nat} {ps : List Str} (h : Parts' x n ps) : ps.length ≤ n := by
  have h1 := congrArg List.length h.cat
  rw [List.length_take] at h1
  have : ∀ l : List (List Nat), (∀ p ∈ l, p ≠ []) → l.length ≤ l.flatten.length := by
    intro l
    induction l with
    | nil => intro _; exact Nat.le_refl _
    | cons a r ih =>
      intro hl
      have := ih fun p hp => hl p (List.mem_cons_of_mem _ hp)
      have ha := hl a List.mem_cons_self
      have : 0 < a.length := List.length_pos_iff.mpr ha
      rw [List.length_cons, List.flatten_cons, List.length_append]
      omega
  have := this (ps.map TL.tl) fun p hp => by
    obtain ⟨q, hq, rfl⟩ := List.mem_map.mp hp
    exact h.ne q hq
  rw [List.length_map] at this
  omega
section
variable {Pr : Program} {w : World} {K : PySem.W.Frag} {mg : Str → Option Value} {base : Heap} {C CB : Addr}
abbrev fCut : Fn := Fn1 fun d P => ∃ x, d = .str x ∧ 1 ≤ x.length ∧ x.length ≤ 50000 ∧ AllLst (FoldOk x) P
theorem ok__law_cut (T : Txt w K mg C CB) : CallOk Pr w K mg base CX0 2 "_law_cut" ["_law_stream_here", "_law_line_here"] (spG K C (fCut)) := by
  have c__law_next := @ok__law_next Pr w K mg base C CB T
  refine T.d__law_cut.ok sc__law_cut (fun vs H Q E h => len_G Fn1.len h) (fun f cdv A outer s H vs Q E hr h => ⟨_, (pss_cons (ps_set (i := 2) sc__law_cut.nd rfl (.inl rfl) (pe_lst pa_nil))
      (pss_cons (ps_set (i := 3) sc__law_cut.nd rfl (.inl rfl) pe_int)
      (pss_cons (ps_set (i := 4) sc__law_cut.nd rfl (.inl rfl) (pe_ix ix_tup (pe_tup (pa_cons pe_int (pa_cons pe_int (pa_cons pe_int (pa_cons pe_int (pa_cons pe_int pa_nil)))))) (pe_cal c__law_next (hr.mono (by decide)) pass0 (pa_cons (pv 0) (pa_cons pe_int pa_nil))) (fun _ _ => rfl)))
      (pss_cons (ps_for PassesOwn.never rfl (pi_range2 rfl T.n_range (pa_cons pe_int (pa_cons (pe_callB cLen (by rfl) T.n_len bb_len (pa_cons (pv 1) pa_nil)) pa_nil))) (pg_name (i := 5) sc__law_cut.nd rfl (.inl rfl))
      (pss_one (ps_if (PW.pt (pw_and (pt_cmpR op_eq (pe_ix ix_str (pv 1) (pv 5) (fun _ _ => rfl)) pe_str (nomark _)) (pw_and (pt_cmpR op_gt (pv 4) pe_int (nomark _)) (pw_and1 (pt_cmpR op_eq (pe_cal c__law_next (hr.mono (by decide)) pass0 (pa_cons (pv 0) (pa_cons (pe_callB (cMax2 rfl) (by rfl) T.n_max bb_max (pa_cons pe_int (pa_cons (pv 4) pa_nil))) pa_nil))) pe_int (nomark _)))))) (pss_cons (ps_expr (pe_bm PySem.F.plainAttrs_list PySem.F.slot_list_append PySem.F.type_list_append mt_append (pv 2) (pa_cons (pe_slice sl_str (pv 1) (po_some (pv 3)) (po_some (pv 5))) pa_nil)))
      (pss_one (ps_set (i := 3) sc__law_cut.nd rfl (.inl rfl) (pv 5)))) pss_nil)))
      (pss_one (ps_ret (pe_op op_cat (pv 2) (pe_lst (pa_cons (pe_slice sl_str (pv 1) (po_some (pv 3)) po_none) pa_nil))))))))), body_G h fun ds P hf => ?_⟩)
  obtain ⟨_, rfl, x, rfl, h0, h1, p⟩ := hf
  refine ⟨Nat.le_of_ble_eq_true rfl, ?_⟩
  show WS _ _ [.strm, .dat (.str x), .un, .un, .un, .un] _ _ _ _
  try dsimp only [cxOf]
  have h1' : x.length ≤ 100000 := by omega
  have el := TL.len_tl x
  walk_at "w"
  refine od_ixT_all (by omega) (by simp only [List.length_cons, List.length_nil]; omega) (fun d hd => ?_)
  have hd := List.mem_of_getElem? hd
  obtain ⟨ch, rfl, hch⟩ : ∃ s : Int, d = .int s ∧ 0 ≤ s ∧ s ≤ 5 := by
    simp only [List.mem_cons, List.not_mem_nil, or_false] at hd
    rcases hd with rfl | rfl | rfl | rfl | rfl <;> exact ⟨_, rfl, by omega⟩
  walk_at "w"
  refine ForInv.mk (fun i τ' => ∃ ps b pl, τ' = [.strm, .dat (.str x), .own ps, .dat (.int ((b : Nat) : Int)), .dat (.int ch), pl] ∧ Parts' x b ps ∧ b ≤ i ∧ b < x.length ∧ (ps = [] ∨ (TL.tl x)[b]? = some 32) ∧ (ps = [] → b = 0)) ⟨[], 0, _, rfl, ⟨rfl, (fun _ h => nomatch h), (fun _ h => nomatch h)⟩, Nat.le_refl _, by omega, .inl rfl, fun _ => rfl⟩ (fun i d τ' hd hI => ?_) (fun τ' hI => ?_)
  · obtain ⟨ps, b, pl, rfl, hp, hb, hbl, hs, hz⟩ := hI
    obtain ⟨hi, rfl⟩ := rgD_get hd
    have hi1 : i + 1 < x.length := by omega
    obtain ⟨c, hc⟩ : ∃ c, (TL.tl x)[i + 1]? = some c := ⟨_, List.getElem?_eq_getElem (by omega)⟩
    have ha : atI (TL.tl x) (1 + ((i : Nat) : Int)) = some c := by
      rw [show (1 : Int) + ((i : Nat) : Int) = ((i + 1 : Nat) : Int) by omega]; exact atI_nat hc
    have hpl := parts_len hp
    have hpl' : ps.length < 100000 := by omega
    walk_at "w"
    refine od_ixS h1' ha ?_
    walk_at "w"
    refine if_2 (fun h3 => ?_) (fun h3 => ?_)
    · have hc32 : c = 32 := of_decide_eq_true (by rw [← one_eq (c := c) (d := 32)]; exact h3)
      walk_at "w"
      refine if_2 (fun h4 => ?_) (fun h4 => ?_)
      · have h4 := of_decide_eq_true h4
        have hm : 0 < (if ch > 1 then ch else 1) ∧ (if ch > 1 then ch else 1) < 1073741824 := by split <;> omega
        have hm1 := hm.1
        have hm2 := hm.2
        walk_at "w"
        refine if_2 (fun h5 => ?_) (fun h5 => ?_)
        · walk_at "w"
          have hcut := cutS_nat x b (1 + i)
          show Parts' x (1 + i) _ ∧ 1 + i ≤ i + 1 ∧ 1 + i < x.length ∧ (_ ∨ (TL.tl x)[1 + i]? = some 32) ∧ (_ → 1 + i = 0)
          refine ⟨parts_snoc hp (by omega) (by omega) hcut hs, by omega, by omega, .inr ?_, fun z => ?_⟩
          · rw [Nat.add_comm, hc, hc32]
          · simp at z
        · walk_at "w"
          exact hz
      · walk_at "w"
        exact hz
    · walk_at "w"
      exact hz
  · obtain ⟨ps, b, pl, rfl, hp, hb, hbl, hs, hz⟩ := hI
    walk_at "w"
    have hpl := parts_len hp
    refine od_cat (by rw [List.length_map]; show ps.length + 1 ≤ _; omega) ?_
    have e : ps.map D.str ++ [D.str (cutS x (some ((b : Nat) : Int)) none)] = (ps ++ [cutS x (some ((b : Nat) : Int)) none]).map .str := by rw [List.map_append]; rfl
    rw [e]
    refine p _ ⟨parts_snoc hp hbl (Nat.le_refl _) ?_ hs, by simp⟩
    rw [cutS_from, el, List.take_of_length_le (by rw [List.length_drop]; omega)]
end
end
section
open PySem PySem.Spec PyProof.Rows L2
open Evl (Ex ex_rd ex_l ex_t)
open CwR
set_option autoImplicit false
open Bod (NmOk NuOk TtOk TxOk)
/-- the lines hs, folded -/
inductive Folds : List Str → List Str → Prop where
  | nil : Folds [] []
  | snoc {hs ss ps : List Str} {x : Str} (h : Folds hs ss) (f : FoldOk x ps) : Folds (hs ++ [x]) (ss ++ ps)
def rowsOf (b : Bod) : List Str := match b.text with
  | none => []
  | some t => (Txt.split t "\n").map fun r => ("|" : Str) ++ r
structure MailOk (L : Ltr) (ls : List Str) : Prop where
  ex : ∃ ss, Folds L.hdr ss ∧ ls = ss ++ ([""] : List Str) ++ rowsOf L.b ++ (["."] : List Str)
theorem folds_len {hs ss : List Str} (h : Folds hs ss) : ss.length ≤ (hs.map (·.length)).sum := by
  induction h with
  | nil => exact Nat.le_refl _
  | snoc h f ih =>
    have := parts_len f.1
    rw [List.length_append, List.map_append, List.sum_append]
    simp
    omega
theorem hdr_len {L : Ltr} (h : L.ok) (hl : L.es.length ≤ 47) : ∀ s ∈ L.hdr, 1 ≤ s.length ∧ s.length ≤ 2000 := by
  have pre : ∀ (w y : Str) (n : Nat), 1 ≤ w.length → w.length ≤ 9 → y.length ≤ n → n ≤ 1900 → 1 ≤ (w ++ y).length ∧ (w ++ y).length ≤ 2000 := fun w y n h1 h2 h3 h4 => by
    rw [slen_app]; omega
  have nl : ∀ t : Str, t.length ≤ 400 → (numS (Txt.count t "\n" + 1)).length ≤ 19 := fun t ht => by
    have := cnt_bound ht
    exact numS_len this.1 (by omega)
  intro s hs
  unfold Ltr.hdr at hs
  rcases List.mem_append.mp hs with z | z
  · obtain ⟨m, em, _, _⟩ := numOk_nat h.s
    simp only [List.mem_cons, List.not_mem_nil, or_false] at z
    rcases z with rfl | rfl | rfl | rfl
    · exact pre _ _ 32 (Nat.le_of_ble_eq_true rfl) (Nat.le_of_ble_eq_true rfl) (refS_len h.a h.n) (by decide)
    · exact pre _ _ 19 (Nat.le_of_ble_eq_true rfl) (Nat.le_of_ble_eq_true rfl) (numS_len (by omega) (by omega)) (by decide)
    · have h1 := join_len (Str.ofString ", ") (L.es.map fun p => refS p.1 p.2)
      have h2 := sum_len (n := 32) (ss := L.es.map fun p => refS p.1 p.2) fun s hs => by
        obtain ⟨r, hr, rfl⟩ := List.mem_map.mp hs
        exact refS_len (h.es r hr).1 (h.es r hr).2
      have e5 : (Str.ofString ", ").length = 2 := rfl
      rw [e5] at h1
      rw [List.length_map] at h1 h2
      exact pre _ (seenS L.es) 1900 (Nat.le_of_ble_eq_true rfl) (Nat.le_of_ble_eq_true rfl) (by show (Txt.join (Str.ofString ", ") (L.es.map fun p => refS p.1 p.2)).length ≤ 1900; omega) (by decide)
    · exact pre _ _ 6 (Nat.le_of_ble_eq_true rfl) (Nat.le_of_ble_eq_true rfl) (kind_len L.b) (by decide)
  · have hb := h.b
    revert hb z
    cases L.b <;> intro z hb <;> simp only [Bod.lines, List.mem_cons, List.not_mem_nil, or_false] at z
    · rcases z with rfl | rfl
      · exact pre _ _ 60 (Nat.le_of_ble_eq_true rfl) (Nat.le_of_ble_eq_true rfl) (tt_len hb.1) (by decide)
      · rename_i t ms
        have h1 := join_len (Str.ofString ", ") ms
        have h2 := sum_len (n := 12) fun m hm => nm_len (hb.2.2.1 m hm)
        have h3 := hb.2.1
        have e5 : (Str.ofString ", ").length = 2 := rfl
        rw [e5] at h1
        exact pre _ _ 300 (Nat.le_of_ble_eq_true rfl) (Nat.le_of_ble_eq_true rfl) (by show (Txt.join (Str.ofString ", ") ms).length ≤ 300; omega) (by decide)
    · subst z; exact pre _ _ 19 (Nat.le_of_ble_eq_true rfl) (Nat.le_of_ble_eq_true rfl) (nl _ (tx_len hb)) (by decide)
    · rcases z with rfl | rfl
      · exact pre _ _ 32 (Nat.le_of_ble_eq_true rfl) (Nat.le_of_ble_eq_true rfl) (refS_len hb.1.1 hb.1.2) (by decide)
      · exact pre _ _ 19 (Nat.le_of_ble_eq_true rfl) (Nat.le_of_ble_eq_true rfl) (nl _ (tx_len hb.2)) (by decide)
    · rcases z with rfl | rfl
      · exact pre _ _ 32 (Nat.le_of_ble_eq_true rfl) (Nat.le_of_ble_eq_true rfl) (refS_len hb.1.1 hb.1.2) (by decide)
      · exact pre _ _ 19 (Nat.le_of_ble_eq_true rfl) (Nat.le_of_ble_eq_true rfl) (nl _ (tx_len hb.2)) (by decide)
    · subst z; exact pre _ _ 32 (Nat.le_of_ble_eq_true rfl) (Nat.le_of_ble_eq_true rfl) (refS_len hb.1 hb.2) (by decide)
    · rcases z with rfl | rfl
      · exact pre _ _ 32 (Nat.le_of_ble_eq_true rfl) (Nat.le_of_ble_eq_true rfl) (refS_len hb.1.1 hb.1.2) (by decide)
      · exact pre _ _ 12 (Nat.le_of_ble_eq_true rfl) (Nat.le_of_ble_eq_true rfl) (nm_len hb.2) (by decide)
    · subst z; exact pre _ _ 60 (Nat.le_of_ble_eq_true rfl) (Nat.le_of_ble_eq_true rfl) (tt_len hb) (by decide)
    · subst z; exact pre _ _ 12 (Nat.le_of_ble_eq_true rfl) (Nat.le_of_ble_eq_true rfl) (nm_len hb) (by decide)
    · subst z; exact pre _ _ 12 (Nat.le_of_ble_eq_true rfl) (Nat.le_of_ble_eq_true rfl) (nm_len hb) (by decide)
    · subst z; exact pre _ _ 12 (Nat.le_of_ble_eq_true rfl) (Nat.le_of_ble_eq_true rfl) (nm_len hb) (by decide)
theorem hdr_cnt (L : Ltr) : L.hdr.length ≤ 6 := by
  unfold Ltr.hdr
  rw [List.length_append]
  cases L.b <;> exact Nat.le_of_ble_eq_true rfl
end
section
open PySem PySem.Spec PyProof.Rows L2
open Evl (Ex ex_rd ex_l ex_t)
open CwR
set_option autoImplicit false
open Bod (NmOk NuOk TtOk TxOk)
def barD : D → D
  | .str x => .str (("|" : Str) ++ x)
  | d => d
theorem map_barD (ws : List Str) : (ws.map D.str).map barD = (ws.map fun r => ("|" : Str) ++ r).map .str := by rw [List.map_map, List.map_map]; rfl
section
variable {Pr : Program} {w : World} {K : PySem.W.Frag} {mg : Str → Option Value} {base : Heap} {C CB : Addr}
abbrev fMail : Fn := Fn1 fun d P => ∃ L : Ltr, d = L.d ∧ L.ok ∧ L.es.length ≤ 47 ∧ AllLst (MailOk L) P
theorem ok__law_mail (T : Txt w K mg C CB) : CallOk Pr w K mg base CX0 3 "_law_mail" ["_law_stream_here", "_law_value_here"] (spG K C (fMail)) := by
  have c__law_cut := @ok__law_cut Pr w K mg base C CB T
  have c__law_header := @ok__law_header Pr w K mg base C CB T
  have c__law_text_of := @ok__law_text_of Pr w K mg base C CB T
  refine T.d__law_mail.ok sc__law_mail (fun vs H Q E h => len_G Fn1.len h) (fun f cdv A outer s H vs Q E hr h => ⟨_, (pss_cons (ps_set (i := 2) sc__law_mail.nd rfl (.inl rfl) (pe_lst pa_nil))
      (pss_cons (ps_for PassesOwn.never rfl (pi_list (pe_cal c__law_header (hr.mono (by decide)) pass0 (pa_cons (pv 1) pa_nil))) (pg_name (i := 3) sc__law_mail.nd rfl (.inl rfl))
      (pss_one (ps_set (i := 2) sc__law_mail.nd rfl (.inl rfl) (pe_op op_cat (pv 2) (pe_cal c__law_cut (hr.mono (by decide)) pass0 (pa_cons (pv 0) (pa_cons (pv 3) pa_nil)))))))
      (pss_cons (ps_expr (pe_bm PySem.F.plainAttrs_list PySem.F.slot_list_append PySem.F.type_list_append mt_append (pv 2) (pa_cons pe_str pa_nil)))
      (pss_cons (ps_if (pt_cmpR op_notN1 (pe_cal c__law_text_of (hr.mono (by decide)) pass0 (pa_cons (pe_ix ix_tup (pv 1) pe_int (fun _ _ => rfl)) pa_nil)) pe_non (nomark _)) (pss_one (ps_set (i := 2) sc__law_mail.nd rfl (.inl rfl) (pe_op op_cat (pv 2) (pe_lc (own := [("_law_row", 4)]) (g := gName 4) (tt := tYes) rfl sc__law_mail.nd (pi_list (pe_m1 PySem.F.slot_str_split PySem.F.type_str_split mSplit (pe_cal c__law_text_of (hr.mono (by decide)) pass0 (pa_cons (pe_ix ix_tup (pv 1) pe_int (fun _ _ => rfl)) pa_nil)) pe_str)) (blkOk_by (own := [("_law_row", 4)]) (N := N__law_mail) (sc := defScope s__law_mail) (by decide +kernel)) (fun _ _ _ _ _ => pg_name (i := 4) sc__law_mail.nd rfl (Or.inl rfl)) (fun _ _ _ _ _ => pts_nil) (fun _ _ _ _ _ => (pe_op oAddS pe_str (pv 4))))))) pss_nil)
      (pss_one (ps_ret (pe_op op_cat (pv 2) (pe_lst (pa_cons pe_str pa_nil))))))))), body_G h fun ds P hf => ?_⟩)
  obtain ⟨_, rfl, L, rfl, ok, hl, p⟩ := hf
  refine ⟨Nat.le_of_ble_eq_true rfl, ?_⟩
  show WS _ _ [.strm, .dat L.d, .un, .un, .un] _ _ _ _
  try dsimp only [cxOf]
  have hh := hdr_len ok hl
  have hc := hdr_cnt L
  walk_at "w"
  refine ForInv.mk (fun i τ' => ∃ ss s3, τ' = [.strm, .dat L.d, .own ss, s3, .un] ∧ Folds (L.hdr.take i) ss) ⟨[], _, rfl, .nil⟩ (fun i d τ' hd hI => ?_) (fun τ' hI => ?_)
  · obtain ⟨ss, s3, rfl, hf⟩ := hI
    rw [List.getElem?_map] at hd
    obtain ⟨x, hx, rfl⟩ := Option.map_eq_some_iff.mp hd
    have hx1 := hh x (List.mem_of_getElem? hx)
    have hx2 : x.length ≤ 50000 := by omega
    have hx0 := hx1.1
    refine wg_name (Nat.le_of_ble_eq_true rfl) ?_
    refine ws_cat (Nat.le_of_ble_eq_true rfl) ?_
    refine wp_var rfl ⟨ss, rfl, ?_⟩
    walk_at "w"
    rename_i ps hps
    refine ⟨?_, ss ++ ps, _, rfl, ?_⟩
    · have h1 := folds_len hf
      have h2 := parts_len hps.1
      have h3 := sum_len (n := 2000) (ss := L.hdr.take i) fun s hs => (hh s (List.mem_of_mem_take hs)).2
      have h4 : (L.hdr.take i).length ≤ 6 := by rw [List.length_take]; omega
      omega
    · rw [List.take_add_one, hx]
      exact .snoc hf hps
  · obtain ⟨ss, s3, rfl, hf⟩ := hI
    rw [List.length_map, List.take_length] at hf
    have h1 := folds_len hf
    have h3 := sum_len (n := 2000) (ss := L.hdr) fun s hs => (hh s hs).2
    have hss : ss.length ≤ 12000 := by omega
    have hss' : ss.length < 100000 := by omega
    walk_at "w"
    cases et : L.b.text with
    | none =>
      have eD : L.b.txtD = .non := by rw [txO_d, et]
      rw [eD]
      refine if_f (ws_next ?_)
      walk_at "w"
      refine od_cat (by rw [List.length_map, List.length_append]; show ss.length + 1 + 1 ≤ _; omega) ?_
      have e : (ss ++ [Str.ofString ""]).map D.str ++ [D.str (Str.ofString ".")] = (ss ++ ([""] : List Str) ++ rowsOf L.b ++ (["."] : List Str)).map .str := by
        unfold rowsOf
        rw [et]
        simp only [List.map_append, List.append_nil, List.map_cons, List.map_nil]
      rw [e]
      exact p _ ⟨ss, hf, rfl⟩
    | some t =>
      have eD : L.b.txtD = .str t := by rw [txO_d, et]
      have ht : TxOk t := by
        have hb := ok.b
        revert et hb
        cases L.b <;> intro et hb <;> first | (cases et; done) | (cases et; first | exact hb | exact hb.2)
      have htl := tx_len ht
      have ht9 : t.length ≤ 90000 := by omega
      have hsp := split_parts t "\n" (fun z => by cases z) (by decide +kernel)
      rw [eD]
      refine if_t ?_
      refine ws_cat (Nat.le_of_ble_eq_true rfl) ?_
      refine wp_var rfl ⟨ss ++ [Str.ofString ""], rfl, ?_⟩
      walk_at "w"
      rw [eD]
      walk_at "w"
      refine LcInv.map barD ?la ?lb (fun i d hd => ?_) ?_
      case la => exact Nat.le_of_ble_eq_true rfl
      case lb =>
        rw [List.length_map]
        have := hsp.1
        exact Nat.le_trans this (by omega)
      · obtain ⟨r, hr, rfl⟩ := List.mem_map.mp (List.mem_of_getElem? hd)
        have hr1 := (hsp.2 r hr).1
        have e1 : (Str.ofString "|").length = 1 := rfl
        have hr2 : r.length ≤ 400 := by omega
        walk_at "w"
        rfl
      · rw [map_barD]
        have hsl : (Txt.split t (Str.ofString "\n")).length ≤ 401 := Nat.le_trans hsp.1 (by omega)
        refine ⟨_, rfl, ?_, ?_⟩
        · rw [List.length_append, List.length_map]; show ss.length + 1 + _ ≤ _; omega
        · walk_at "w"
          refine od_cat ?_ ?_
          · rw [List.length_map, List.length_append, List.length_append, List.length_map]; show ss.length + 1 + _ + 1 ≤ _; omega
          · have e : (ss ++ [Str.ofString ""] ++ (Txt.split t (Str.ofString "\n")).map fun r => Str.ofString "|" ++ r).map D.str ++ [D.str (Str.ofString ".")] = (ss ++ ([""] : List Str) ++ rowsOf L.b ++ (["."] : List Str)).map .str := by
              unfold rowsOf
              rw [et]
              simp only [List.map_append, List.append_nil, List.map_cons, List.map_nil]
            rw [e]
            exact p _ ⟨ss, hf, rfl⟩
end
end
section
open PySem PySem.Spec PyProof.Rows L2
open Evl (Ex ex_rd ex_l ex_t)
open CwR
set_option autoImplicit false
open Bod (NmOk NuOk TtOk TxOk)
/-! changed lines: what is kept. -/
abbrev LnS (x : Str) : Prop := ∀ c ∈ TL.tl x, c < 128 ∧ c ≠ 10
structure Siz (n : Nat) (ls : List Str) : Prop where
  sum : (ls.map (·.length)).sum ≤ n
  len : ls.length ≤ n
  ch : ∀ l ∈ ls, LnS l
theorem lns_cut {x : Str} {lo hi : Option Int} (h : LnS x) : LnS (cutS x lo hi) := fun c hc => by
  rw [cutS_tl] at hc
  exact h c (List.mem_of_mem_drop (List.mem_of_mem_take hc))
theorem lns_app {x y : Str} (h : LnS x) (g : LnS y) : LnS (x ++ y) := fun c hc => by
  rw [TL.tl_append] at hc
  rcases List.mem_append.mp hc with z | z
  · exact h c z
  · exact g c z
theorem cut_len2 {x : Str} {a b : Nat} (h : a ≤ b) : (cutS x none (some (a : Nat))).length + (cutS x (some (b : Nat)) none).length ≤ x.length := by
  rw [TL.len_tl, TL.len_tl, TL.len_tl x, cutS_to, cutS_from, List.length_take, List.length_drop]
  omega
def othL : List Str := ["", ".", "|", "|x", " ", " x", "x", "Kind: say", "Kind: seen", "Kind: title", "Lines: 1", "Lines: 2", "..", "Title: ", "Members: ", "Stamp: 1", "Stamp: 7", "From: anna 1", "Seen: anna 1", "Name: bert"]
theorem oth_ok : ∀ x ∈ othL, x.length ≤ 12 ∧ LnS x := by
  have : (othL.all fun x => decide (x.length ≤ 12) && (TL.tl x).all fun c => decide (c < 128) && !decide (c = 10)) = true := by decide +kernel
  intro x hx
  have := List.all_eq_true.mp this x hx
  rw [Bool.and_eq_true, List.all_eq_true] at this
  refine ⟨of_decide_eq_true this.1, fun c hc => ?_⟩
  have := this.2 c hc
  simpa using this
abbrev chrL : Str := " 0123456789|.,:aZn-\t"
theorem chr_ok {i : Int} {c : Nat} (h : (TL.tl chrL)[i.toNat]? = some c) : LnS ⟨#[c]⟩ := by
  have : ((TL.tl chrL).all fun c => decide (c < 128) && !decide (c = 10)) = true := by decide +kernel
  have := List.all_eq_true.mp this c (List.mem_of_getElem? h)
  intro d hd
  rw [List.mem_singleton.mp hd]
  simpa using this
theorem siz_parts {n a b : Nat} {ls xs : List Str} (h : Siz n ls) (hab : a ≤ b) (h1 : ((ls.take a).map (·.length)).sum + (xs.map (·.length)).sum + ((ls.drop b).map (·.length)).sum ≤ 2 * n + 40) (h2 : xs.length ≤ 2) (h3 : ∀ l ∈ xs, LnS l) :
    Siz (2 * n + 40) (ls.take a ++ xs ++ ls.drop b) := by
  refine ⟨?_, ?_, fun l hl => ?_⟩
  · rw [List.map_append, List.map_append, List.sum_append, List.sum_append]; exact h1
  · have := h.len
    rw [List.length_append, List.length_append, List.length_take, List.length_drop]; omega
  · rcases List.mem_append.mp hl with z | z
    · rcases List.mem_append.mp z with z | z
      · exact h.ch l (List.mem_of_mem_take z)
      · exact h3 l z
    · exact h.ch l (List.mem_of_mem_drop z)
theorem sum_split (ls : List Str) (a : Nat) : (ls.map (·.length)).sum = ((ls.take a).map (·.length)).sum + ((ls.drop a).map (·.length)).sum := by
  rw [← List.sum_append, ← List.map_append, List.take_append_drop]
theorem sum_at {ls : List Str} {a : Nat} {l : Str} (h : ls[a]? = some l) : ((ls.drop a).map (·.length)).sum = l.length + ((ls.drop (a + 1)).map (·.length)).sum := by
  have ha : a < ls.length := (List.getElem?_eq_some_iff.mp h).1
  rw [List.drop_eq_getElem_cons ha, (List.getElem?_eq_some_iff.mp h).2, List.map_cons, List.sum_cons]
theorem join_sum : ∀ (ls : List Str), (Txt.join "" ls).length ≤ (ls.map (·.length)).sum := fun ls => by
  have := join_len (Str.ofString "") ls
  have e : (Str.ofString "").length = 0 := rfl
  rw [e, Nat.mul_zero] at this
  exact this
theorem join_lns {ls : List Str} (h : ∀ l ∈ ls, LnS l) : LnS (Txt.join "" ls) := fun c hc => by
  have e0 : TL.tl (Str.ofString "") = [] := rfl
  have : ∀ ll : List (List Nat), c ∈ TL.joinL [] ll → ∃ l ∈ ll, c ∈ l := by
    intro ll
    induction ll with
    | nil => intro h; cases h
    | cons a r ih =>
      cases r with
      | nil => intro h; exact ⟨a, List.mem_cons_self, h⟩
      | cons b t =>
        intro h
        have h : c ∈ a ++ ([] ++ TL.joinL [] (b :: t)) := by
          first | exact h | (rw [List.append_assoc] at h; exact h)
        rcases List.mem_append.mp h with z | z
        · exact ⟨a, List.mem_cons_self, z⟩
        · obtain ⟨l, h1, h2⟩ := ih z
          exact ⟨l, List.mem_cons_of_mem _ h1, h2⟩
  rw [TL.join_eq, TL.tl_join, e0] at hc
  obtain ⟨l, h1, h2⟩ := this _ hc
  obtain ⟨s, hs, rfl⟩ := List.mem_map.mp h1
  exact h s hs c h2
section
variable {Pr : Program} {w : World} {K : PySem.W.Frag} {mg : Str → Option Value} {base : Heap} {C CB : Addr}
abbrev fOthL : Fn := Fn0 fun P => AllStr (fun x => x.length ≤ 12 ∧ LnS x) P
abbrev fOthC : Fn := Fn1 fun d P => ∃ x, d = .str x ∧ x.length ≤ 50000 ∧ LnS x ∧ AllStr (fun y => y.length ≤ x.length + 1 ∧ LnS y) P
abbrev fChg : Fn := Fn1 fun d P => ∃ ls n, d = .lst (ls.map .str) ∧ Siz n ls ∧ n ≤ 20000 ∧ AllLst (Siz (2 * n + 40)) P
theorem ok__law_other_line (T : Txt w K mg C CB) : CallOk Pr w K mg base CX0 2 "_law_other_line" ["_law_stream_here"] (spG K C (fOthL)) := by
  have c__law_next := @ok__law_next Pr w K mg base C CB T
  refine T.d__law_other_line.ok sc__law_other_line (fun vs H Q E h => len_G Fn0.len h) (fun f cdv A outer s H vs Q E hr h => ⟨_, (pss_cons (ps_set (i := 1) sc__law_other_line.nd rfl (.inl rfl) (pe_lst (pa_cons pe_str (pa_cons pe_str (pa_cons pe_str (pa_cons pe_str (pa_cons pe_str (pa_cons pe_str (pa_cons pe_str (pa_cons pe_str (pa_cons pe_str (pa_cons pe_str (pa_cons pe_str (pa_cons pe_str (pa_cons pe_str pa_nil)))))))))))))))
      (pss_cons (ps_set (i := 1) sc__law_other_line.nd rfl (.inl rfl) (pe_op op_cat (pv 1) (pe_lst (pa_cons pe_str (pa_cons pe_str (pa_cons pe_str (pa_cons pe_str (pa_cons pe_str (pa_cons pe_str (pa_cons pe_str pa_nil))))))))))
      (pss_one (ps_ret (pe_ix ix_list (pv 1) (pe_cal c__law_next (hr.mono (by decide)) pass0 (pa_cons (pv 0) (pa_cons pe_int pa_nil))) (fun _ _ => rfl)))))), body_G h fun ds P hf => ?_⟩)
  obtain ⟨rfl, p⟩ := hf
  refine ⟨Nat.le_of_ble_eq_true rfl, ?_⟩
  show WS _ _ [.strm, .un] _ _ _ _
  try dsimp only [cxOf]
  walk_at "w"
  refine od_cat (by decide) ?_
  walk_at "w"
  refine od_ixL_all (ss := othL) (by omega) (by show _ < ((20 : Nat) : Int); omega) (fun x hx => ?_)
  exact p x (oth_ok x (List.mem_of_getElem? hx))
theorem ok__law_other_chars (T : Txt w K mg C CB) : CallOk Pr w K mg base CX0 2 "_law_other_chars" ["_law_stream_here", "_law_line_here"] (spG K C (fOthC)) := by
  have c__law_next := @ok__law_next Pr w K mg base C CB T
  refine T.d__law_other_chars.ok sc__law_other_chars (fun vs H Q E h => len_G Fn1.len h) (fun f cdv A outer s H vs Q E hr h => ⟨_, (pss_cons (ps_set (i := 2) sc__law_other_chars.nd rfl (.inl rfl) (pe_ix ix_str pe_str (pe_cal c__law_next (hr.mono (by decide)) pass0 (pa_cons (pv 0) (pa_cons pe_int pa_nil))) (fun _ _ => rfl)))
      (pss_cons (ps_set (i := 3) sc__law_other_chars.nd rfl (.inl rfl) (pe_cal c__law_next (hr.mono (by decide)) pass0 (pa_cons (pv 0) (pa_cons pe_int pa_nil))))
      (pss_cons (ps_set (i := 4) sc__law_other_chars.nd rfl (.inl rfl) (pe_cal c__law_next (hr.mono (by decide)) pass0 (pa_cons (pv 0) (pa_cons (pe_op op_add (pe_callB cLen (by rfl) T.n_len bb_len (pa_cons (pv 1) pa_nil)) pe_int) pa_nil))))
      (pss_cons (ps_if (pt_cmpR op_eq (pv 3) pe_int (nomark _)) (pss_one (ps_ret (pe_op oAddS (pe_slice sl_str (pv 1) po_none (po_some (pv 4))) (pe_slice sl_str (pv 1) (po_some (pe_op op_add (pv 4) pe_int)) po_none)))) pss_nil)
      (pss_cons (ps_if (pt_cmpR op_eq (pv 3) pe_int (nomark _)) (pss_one (ps_ret (pe_op oAddS (pe_op oAddS (pe_slice sl_str (pv 1) po_none (po_some (pv 4))) (pv 2)) (pe_slice sl_str (pv 1) (po_some (pv 4)) po_none)))) pss_nil)
      (pss_one (ps_ret (pe_op oAddS (pe_op oAddS (pe_slice sl_str (pv 1) po_none (po_some (pv 4))) (pv 2)) (pe_slice sl_str (pv 1) (po_some (pe_op op_add (pv 4) pe_int)) po_none))))))))), body_G h fun ds P hf => ?_⟩)
  obtain ⟨_, rfl, x, rfl, hx, hs, p⟩ := hf
  refine ⟨Nat.le_of_ble_eq_true rfl, ?_⟩
  show WS _ _ [.strm, .dat (.str x), .un, .un, .un] _ _ _ _
  try dsimp only [cxOf]
  have hx1 : x.length ≤ 100000 := by omega
  have eC : chrL.length = 20 := rfl
  have eC2 : chrL.length ≤ 100000 := by omega
  walk_at "w"
  refine od_ixS_all eC2 (by omega) (by rw [eC]; omega) (fun c hc => ?_)
  have hc := chr_ok hc
  walk_at "w"
  rename_i k hk a ha
  obtain ⟨m, rfl⟩ := Int.eq_ofNat_of_zero_le ha.1
  have c1 : (cutS x none (some ((m : Nat) : Int))).length + (cutS x (some (((m : Nat) : Int) + 1)) none).length ≤ x.length := cut_len2 (x := x) (a := m) (b := m + 1) (by omega)
  have c2 := cut_len2 (x := x) (a := m) (b := m) (by omega)
  have s1 : LnS (cutS x none (some ((m : Nat) : Int))) := lns_cut hs
  have s2 : LnS (cutS x (some ((m : Nat) : Int)) none) := lns_cut hs
  have s3 : LnS (cutS x (some (((m : Nat) : Int) + 1)) none) := lns_cut hs
  have o1 : (Str.length ⟨#[c]⟩) = 1 := rfl
  walk_at "w"
  refine if_2 (fun _ => ?_) (fun _ => ?_)
  · walk_at "w"
    exact p _ ⟨by rw [slen_app]; exact Nat.le_trans c1 (Nat.le_succ _), lns_app s1 s3⟩
  · walk_at "w"
    refine if_2 (fun _ => ?_) (fun _ => ?_)
    · walk_at "w"
      exact p _ ⟨by rw [slen_app, slen_app, o1]; omega, lns_app (lns_app s1 hc) s2⟩
    · walk_at "w"
      exact p _ ⟨by rw [slen_app, slen_app, o1]; omega, lns_app (lns_app s1 hc) s3⟩
theorem ok__law_change (T : Txt w K mg C CB) : CallOk Pr w K mg base CX0 3 "_law_change" ["_law_stream_here", "_law_lines"] (spG K C (fChg)) := by
  have c__law_next := @ok__law_next Pr w K mg base C CB T
  have c__law_other_chars := @ok__law_other_chars Pr w K mg base C CB T
  have c__law_other_line := @ok__law_other_line Pr w K mg base C CB T
  refine T.d__law_change.ok sc__law_change (fun vs H Q E h => len_G Fn1.len h) (fun f cdv A outer s H vs Q E hr h => ⟨_, (pss_cons (ps_if (pt_cmpR (op_eqD hr.units) (pv 1) (pe_lst pa_nil) (nomark _)) (pss_one (ps_ret (pe_lst (pa_cons (pe_cal c__law_other_line (hr.mono (by decide)) pass0 (pa_cons (pv 0) pa_nil)) pa_nil)))) pss_nil)
      (pss_cons (ps_set (i := 2) sc__law_change.nd rfl (.inl rfl) (pe_cal c__law_next (hr.mono (by decide)) pass0 (pa_cons (pv 0) (pa_cons pe_int pa_nil))))
      (pss_cons (ps_set (i := 3) sc__law_change.nd rfl (.inl rfl) (pe_cal c__law_next (hr.mono (by decide)) pass0 (pa_cons (pv 0) (pa_cons (pe_callB cLen (by rfl) T.n_len bb_len (pa_cons (pv 1) pa_nil)) pa_nil))))
      (pss_cons (ps_if (pt_cmpR op_eq (pv 2) pe_int (nomark _)) (pss_one (ps_ret (pe_op op_cat (pe_slice sl_list (pv 1) po_none (po_some (pv 3))) (pe_slice sl_list (pv 1) (po_some (pe_op op_add (pv 3) pe_int)) po_none)))) pss_nil)
      (pss_cons (ps_if (pt_cmpR op_eq (pv 2) pe_int (nomark _)) (pss_one (ps_ret (pe_op op_cat (pe_op op_cat (pe_slice sl_list (pv 1) po_none (po_some (pv 3))) (pe_lst (pa_cons (pe_ix ix_list (pv 1) (pv 3) (fun _ _ => rfl)) pa_nil))) (pe_slice sl_list (pv 1) (po_some (pv 3)) po_none)))) pss_nil)
      (pss_cons (ps_if (pt_cmpR op_eq (pv 2) pe_int (nomark _)) (pss_one (ps_ret (pe_op op_cat (pe_op op_cat (pe_op op_cat (pe_slice sl_list (pv 1) po_none (po_some (pv 3))) (pe_slice sl_list (pv 1) (po_some (pe_op op_add (pv 3) pe_int)) (po_some (pe_op op_add (pv 3) pe_int)))) (pe_lst (pa_cons (pe_ix ix_list (pv 1) (pv 3) (fun _ _ => rfl)) pa_nil))) (pe_slice sl_list (pv 1) (po_some (pe_op op_add (pv 3) pe_int)) po_none)))) pss_nil)
      (pss_cons (ps_if (pt_cmpR op_eq (pv 2) pe_int (nomark _)) (pss_one (ps_ret (pe_op op_cat (pe_op op_cat (pe_slice sl_list (pv 1) po_none (po_some (pv 3))) (pe_lst (pa_cons (pe_m1 PySem.F.slot_str_join PySem.F.type_str_join mJoin pe_str (pe_slice sl_list (pv 1) (po_some (pv 3)) (po_some (pe_op op_add (pv 3) pe_int)))) pa_nil))) (pe_slice sl_list (pv 1) (po_some (pe_op op_add (pv 3) pe_int)) po_none)))) pss_nil)
      (pss_cons (ps_if (pt_cmpR op_eq (pv 2) pe_int (nomark _)) (pss_cons (ps_set (i := 4) sc__law_change.nd rfl (.inl rfl) (pe_cal c__law_next (hr.mono (by decide)) pass0 (pa_cons (pv 0) (pa_cons (pe_op op_add (pe_callB cLen (by rfl) T.n_len bb_len (pa_cons (pe_ix ix_list (pv 1) (pv 3) (fun _ _ => rfl)) pa_nil)) pe_int) pa_nil))))
      (pss_one (ps_ret (pe_op op_cat (pe_op op_cat (pe_slice sl_list (pv 1) po_none (po_some (pv 3))) (pe_lst (pa_cons (pe_slice sl_str (pe_ix ix_list (pv 1) (pv 3) (fun _ _ => rfl)) po_none (po_some (pv 4))) (pa_cons (pe_slice sl_str (pe_ix ix_list (pv 1) (pv 3) (fun _ _ => rfl)) (po_some (pv 4)) po_none) pa_nil)))) (pe_slice sl_list (pv 1) (po_some (pe_op op_add (pv 3) pe_int)) po_none))))) pss_nil)
      (pss_cons (ps_if (pt_cmpR op_eq (pv 2) pe_int (nomark _)) (pss_one (ps_ret (pe_op op_cat (pe_op op_cat (pe_slice sl_list (pv 1) po_none (po_some (pv 3))) (pe_lst (pa_cons (pe_cal c__law_other_line (hr.mono (by decide)) pass0 (pa_cons (pv 0) pa_nil)) pa_nil))) (pe_slice sl_list (pv 1) (po_some (pe_op op_add (pv 3) pe_int)) po_none)))) pss_nil)
      (pss_cons (ps_if (pt_cmpR op_eq (pv 2) pe_int (nomark _)) (pss_one (ps_ret (pe_slice sl_list (pv 1) po_none (po_some (pv 3))))) pss_nil)
      (pss_cons (ps_if (pt_cmpR op_eq (pv 2) pe_int (nomark _)) (pss_one (ps_ret (pe_op op_cat (pe_op op_cat (pe_slice sl_list (pv 1) po_none (po_some (pv 3))) (pe_lst (pa_cons (pe_cal c__law_other_line (hr.mono (by decide)) pass0 (pa_cons (pv 0) pa_nil)) pa_nil))) (pe_slice sl_list (pv 1) (po_some (pv 3)) po_none)))) pss_nil)
      (pss_one (ps_ret (pe_op op_cat (pe_op op_cat (pe_slice sl_list (pv 1) po_none (po_some (pv 3))) (pe_lst (pa_cons (pe_cal c__law_other_chars (hr.mono (by decide)) pass0 (pa_cons (pv 0) (pa_cons (pe_ix ix_list (pv 1) (pv 3) (fun _ _ => rfl)) pa_nil))) pa_nil))) (pe_slice sl_list (pv 1) (po_some (pe_op op_add (pv 3) pe_int)) po_none))))))))))))))), body_G h fun ds P hf => ?_⟩)
  obtain ⟨_, rfl, ls, n, rfl, hs, hn, p⟩ := hf
  refine ⟨Nat.le_of_ble_eq_true rfl, ?_⟩
  show WS _ _ [.strm, .dat (.lst (ls.map .str)), .un, .un, .un] _ _ _ _
  try dsimp only [cxOf]
  have hlen := hs.len
  have hsum := hs.sum
  walk_at "w"
  refine od_eqD (shp_strs fun s h c hc => (hs.ch s h c hc).1) (shp_strs (ss := []) (fun _ h => nomatch h)) ?_
  rw [show (D.lst ([] : List D)) = D.lst (([] : List Str).map .str) from rfl, eqv_strs ls []]
  by_cases c0 : ls = []
  · refine ⟨_, rfl, if_is (decide_eq_true c0) (if_t ?_)⟩
    walk_at "w"
    rename_i x hx
    refine PtoD (p [x] ⟨?_, ?_, fun l hl => ?_⟩) rfl
    · simp only [List.map_cons, List.map_nil, List.sum_cons, List.sum_nil]; omega
    · simp only [List.length_cons, List.length_nil]; omega
    · rw [List.mem_singleton.mp hl]; exact hx.2
  · refine ⟨_, rfl, if_is (decide_eq_false c0) (if_f (ws_next ?_))⟩
    have hpos : 0 < ls.length := List.length_pos_iff.mpr c0
    walk_at "w"
    rename_i k hk a ha
    rw [List.length_map] at ha
    obtain ⟨m, rfl⟩ := Int.eq_ofNat_of_zero_le ha.1
    have hm : m < ls.length := by omega
    obtain ⟨l, hl⟩ : ∃ l, ls[m]? = some l := ⟨_, List.getElem?_eq_getElem hm⟩
    have hll := sum_mem (List.mem_of_getElem? hl)
    have hlc := hs.ch l (List.mem_of_getElem? hl)
    have l1 : l.length ≤ 100000 := by omega
    have l2 : l.length ≤ 50000 := by omega
    have eA : cutD (ls.map .str) none (some ((m : Nat) : Int)) = (ls.take m).map .str := by rw [cutD_to, List.map_take]
    have eB0 : cutD (ls.map .str) (some ((m : Nat) : Int)) none = (ls.drop m).map .str := by rw [cutD_from, List.map_drop]
    have eB1 : cutD (ls.map .str) (some (((m : Nat) : Int) + 1)) none = (ls.drop (m + 1)).map .str := by
      have := cutD_from (ls.map .str) (m + 1)
      rw [← List.map_drop] at this
      exact this
    have eB2 : cutD (ls.map .str) (some (((m : Nat) : Int) + 2)) none = (ls.drop (m + 2)).map .str := by
      have := cutD_from (ls.map .str) (m + 2)
      rw [← List.map_drop] at this
      exact this
    have eM1 : cutD (ls.map .str) (some (((m : Nat) : Int) + 1)) (some (((m : Nat) : Int) + 2)) = ((ls.drop (m + 1)).take 1).map .str := by
      have := cutD_nat (ls.map .str) (m + 1) (m + 2)
      rw [← List.map_drop, ← List.map_take, show m + 2 - (m + 1) = 1 by omega] at this
      exact this
    have eM2 : cutD (ls.map .str) (some ((m : Nat) : Int)) (some (((m : Nat) : Int) + 2)) = ((ls.drop m).take 2).map .str := by
      have := cutD_nat (ls.map .str) m (m + 2)
      rw [← List.map_drop, ← List.map_take, show m + 2 - m = 2 by omega] at this
      exact this
    have S0 := sum_split ls m
    have S1 := sum_at hl
    have S2 := sum_split (ls.drop (m + 1)) 1
    have S3 := sum_split (ls.drop m) 2
    rw [List.drop_drop] at S2 S3
    have cat3 : ∀ (xs : List Str) (b : Nat), .lst ((ls.take m ++ xs ++ ls.drop b).map .str) = D.lst ((ls.take m).map .str ++ xs.map .str ++ (ls.drop b).map .str) := fun xs b => by rw [List.map_append, List.map_append]
    have fin : ∀ (xs : List Str) (b : Nat), m ≤ b → ((ls.take m).map (·.length)).sum + (xs.map (·.length)).sum + ((ls.drop b).map (·.length)).sum ≤ 2 * n + 40 → xs.length ≤ 2 → (∀ l ∈ xs, LnS l) → P (D.lst ((ls.take m).map .str ++ xs.map .str ++ (ls.drop b).map .str)) := fun xs b h1 h2 h3 h4 =>
      PtoD (p _ (siz_parts hs h1 h2 h3 h4)) (cat3 xs b)
    have slen : ∀ (a b : Nat) (xs : List D), xs.length ≤ 2 → ((ls.take a).map D.str ++ xs).length + ((ls.drop b).map D.str).length ≤ 100000 := fun a b xs hx => by
      rw [List.length_append, List.length_map, List.length_map, List.length_take, List.length_drop]; omega
    have slen1 : ∀ (a : Nat) (xs : List D), xs.length ≤ 2 → ((ls.take a).map D.str).length + xs.length ≤ 100000 := fun a xs hx => by
      rw [List.length_map, List.length_take]; omega
    refine if_2 (fun _ => ?_) (fun _ => ?_)
    · walk_at "w"
      rw [eA, eB1]
      refine od_cat (by rw [List.length_map, List.length_map, List.length_take, List.length_drop]; omega) ?_
      have := fin [] (m + 1) (by omega) (by simp only [List.map_nil, List.sum_nil]; omega) (by simp) (fun _ h => nomatch h)
      rw [List.map_nil, List.append_nil] at this
      exact this
    walk_at "w"
    refine if_2 (fun _ => ?_) (fun _ => ?_)
    · walk_at "w"
      rw [eA]
      refine od_ixL (atI_map hl) ?_
      walk_at "w"
      refine od_cat (slen1 _ _ (Nat.le_of_ble_eq_true rfl)) ?_
      walk_at "w"
      rw [eB0]
      refine od_cat (slen _ _ _ (Nat.le_of_ble_eq_true rfl)) ?_
      exact fin [l] m (by omega) (by simp only [List.map_cons, List.map_nil, List.sum_cons, List.sum_nil]; omega) (Nat.le_of_ble_eq_true rfl) (fun x hx => by rw [List.mem_singleton.mp hx]; exact hlc)
    walk_at "w"
    refine if_2 (fun _ => ?_) (fun _ => ?_)
    · walk_at "w"
      rw [eA, eM1]
      refine od_cat (slen1 _ _ (by rw [List.length_map, List.length_take]; omega)) ?_
      walk_at "w"
      refine od_ixL (atI_map hl) ?_
      walk_at "w"
      have e1 : ((ls.drop (m + 1)).take 1).map D.str ++ [D.str l] = ((ls.drop (m + 1)).take 1 ++ [l]).map .str := by rw [List.map_append]; rfl
      have hx2 : (((ls.drop (m + 1)).take 1 ++ [l]).map D.str).length ≤ 2 := by rw [List.length_map, List.length_append, List.length_take]; simp only [List.length_cons, List.length_nil]; omega
      refine od_cat ?_ ?_
      · rw [List.length_append, List.length_map, List.length_map, List.length_take, List.length_take]; simp only [List.length_cons, List.length_nil]; omega
      · rw [List.append_assoc, e1]
        walk_at "w"
        rw [eB2]
        refine od_cat (slen _ _ _ hx2) ?_
        refine fin _ (m + 2) (by omega) ?_ (by rw [List.length_map] at hx2; exact hx2) (fun x hx => ?_)
        · rw [List.map_append, List.sum_append]
          simp only [List.map_cons, List.map_nil, List.sum_cons, List.sum_nil]
          omega
        · rcases List.mem_append.mp hx with z | z
          · exact hs.ch x (List.mem_of_mem_drop (List.mem_of_mem_take z))
          · rw [List.mem_singleton.mp z]; exact hlc
    walk_at "w"
    refine if_2 (fun _ => ?_) (fun _ => ?_)
    · walk_at "w"
      rw [eA]
      have hj := join_sum ((ls.drop m).take 2)
      rw [eM2]
      have e0 : (Str.ofString "").length = 0 := rfl
      have hjj : (((ls.drop m).take 2).map (·.length)).sum + ((ls.drop m).take 2).length * (Str.ofString "").length ≤ 16777216 := by rw [e0]; omega
      refine md_joinL hjj ?_
      walk_at "w"
      refine od_cat (slen1 _ _ (Nat.le_of_ble_eq_true rfl)) ?_
      walk_at "w"
      rw [eB2]
      refine od_cat (slen _ _ _ (Nat.le_of_ble_eq_true rfl)) ?_
      refine fin [Txt.join "" ((ls.drop m).take 2)] (m + 2) (by omega) (by simp only [List.map_cons, List.map_nil, List.sum_cons, List.sum_nil]; omega) (Nat.le_of_ble_eq_true rfl) (fun x hx => ?_)
      rw [List.mem_singleton.mp hx]
      exact join_lns fun s hs' => hs.ch s (List.mem_of_mem_drop (List.mem_of_mem_take hs'))
    walk_at "w"
    refine if_2 (fun _ => ?_) (fun _ => ?_)
    · walk_at "w"
      refine od_ixL (atI_map hl) ?_
      walk_at "w"
      rename_i q hq
      obtain ⟨r, rfl⟩ := Int.eq_ofNat_of_zero_le hq.1
      rw [eA]
      have c2 := cut_len2 (x := l) (a := r) (b := r) (by omega)
      refine od_ixL (atI_map hl) ?_
      walk_at "w"
      refine od_ixL (atI_map hl) ?_
      walk_at "w"
      refine od_cat (slen1 _ _ (Nat.le_of_ble_eq_true rfl)) ?_
      walk_at "w"
      rw [eB1]
      refine od_cat (slen _ _ _ (Nat.le_of_ble_eq_true rfl)) ?_
      refine fin [cutS l none (some ((r : Nat) : Int)), cutS l (some ((r : Nat) : Int)) none] (m + 1) (by omega) (by simp only [List.map_cons, List.map_nil, List.sum_cons, List.sum_nil]; omega) (Nat.le_of_ble_eq_true rfl) (fun x hx => ?_)
      simp only [List.mem_cons, List.not_mem_nil, or_false] at hx
      rcases hx with rfl | rfl
      · exact lns_cut hlc
      · exact lns_cut hlc
    walk_at "w"
    refine if_2 (fun _ => ?_) (fun _ => ?_)
    · walk_at "w"
      rename_i x hx
      rw [eA]
      refine od_cat (slen1 _ _ (Nat.le_of_ble_eq_true rfl)) ?_
      walk_at "w"
      rw [eB1]
      refine od_cat (slen _ _ _ (Nat.le_of_ble_eq_true rfl)) ?_
      exact fin [x] (m + 1) (by omega) (by simp only [List.map_cons, List.map_nil, List.sum_cons, List.sum_nil]; omega) (Nat.le_of_ble_eq_true rfl) (fun y hy => by rw [List.mem_singleton.mp hy]; exact hx.2)
    walk_at "w"
    refine if_2 (fun _ => ?_) (fun _ => ?_)
    · walk_at "w"
      rw [eA]
      refine p _ ⟨?_, ?_, fun x hx => hs.ch x (List.mem_of_mem_take hx)⟩
      · omega
      · rw [List.length_take]; omega
    walk_at "w"
    refine if_2 (fun _ => ?_) (fun _ => ?_)
    · walk_at "w"
      rename_i x hx
      rw [eA]
      refine od_cat (slen1 _ _ (Nat.le_of_ble_eq_true rfl)) ?_
      walk_at "w"
      rw [eB0]
      refine od_cat (slen _ _ _ (Nat.le_of_ble_eq_true rfl)) ?_
      exact fin [x] m (by omega) (by simp only [List.map_cons, List.map_nil, List.sum_cons, List.sum_nil]; omega) (Nat.le_of_ble_eq_true rfl) (fun y hy => by rw [List.mem_singleton.mp hy]; exact hx.2)
    walk_at "w"
    refine od_ixL (atI_map hl) ?_
    walk_at "w"
    rename_i x hx
    rw [eA]
    refine od_cat (slen1 _ _ (Nat.le_of_ble_eq_true rfl)) ?_
    walk_at "w"
    rw [eB1]
    refine od_cat (slen _ _ _ (Nat.le_of_ble_eq_true rfl)) ?_
    exact fin [x] (m + 1) (by omega) (by simp only [List.map_cons, List.map_nil, List.sum_cons, List.sum_nil]; omega) (Nat.le_of_ble_eq_true rfl) (fun y hy => by rw [List.mem_singleton.mp hy]; exact hx.2)
end
end
section
open PySem PySem.Spec PyProof.Rows L2
open Evl (Ex ex_rd ex_l ex_t)
open CwR
set_option autoImplicit false
open Bod (NmOk NuOk TtOk TxOk)
/-! the stream is made; a law's turn. -/
def Sl.unst : Sl → Sl
  | .strm => .un
  | s => s
def unst (τ : List Sl) : List Sl := τ.map Sl.unst
section
variable {K : PySem.W.Frag} {C : Addr} {O0 A A' : List Addr} {H0 H H' : Hp} {σ : L2.St} {τ : List Sl} {a : Addr} {d s : Int} {o : HO}
theorem Rep.toStrm (R : Rep K C none O0 H0 A H σ τ) (ha : H a = none) {i : Nat} (hi : i < τ.length) (hx : σ[i]? = some (some (.ref a))) (eo : o = .lst [.int d, .int s]) :
    Rep K C (some a) (a :: O0) (upd H0 a o) A (upd H a o) σ (τ.set i .strm) := by
  have ex : Ex (Er (A ++ O0) H) (Er (A ++ a :: O0) (upd H a o)) := fun b ob e => by
    obtain ⟨h1, h2⟩ := Er.some e
    have hb : b ≠ a := fun z => by rw [z, ha] at h2; cases h2
    refine Er.mk (fun z => ?_) (by rw [upd_ne hb]; exact h2)
    rcases List.mem_append.mp z with z | z
    · exact h1 (List.mem_append_left _ z)
    · rcases List.mem_cons.mp z with z | z
      · exact hb z
      · exact h1 (List.mem_append_right _ z)
  have neA : ∀ b ∈ A, b ≠ a := fun b hb z => R.domA b hb (by rw [z]; exact ha)
  refine ⟨by rw [List.length_set]; exact R.len, fun j t e => ?_, fun j k t u b e1 e2 o1 o2 q1 q2 => ?_, fun b hb => ?_, fun b e => ?_, ⟨fun b ob n e => ?_, fun b e => ?_⟩, fun b hb => ?_, fun b hb => ?_⟩
  · by_cases hj : i = j
    · subst hj
      rw [List.getElem?_set_self hi] at e
      cases e
      exact ⟨a, rfl, hx⟩
    · rw [List.getElem?_set_ne hj] at e
      have h := R.sl j t e
      cases t with
      | un => trivial
      | dat d => obtain ⟨v, e, q⟩ := h; exact ⟨v, e, Rp.mono ex _ _ q⟩
      | strm => obtain ⟨b, e, _⟩ := h; cases e
      | own ss => obtain ⟨b, ob, e, hb, ho, q⟩ := h; exact ⟨b, ob, e, hb, by rw [upd_ne (neA b hb)]; exact ho, q⟩
      | ownd ks ds => obtain ⟨b, ob, e, hb, ho, q⟩ := h; exact ⟨b, ob, e, hb, by rw [upd_ne (neA b hb)]; exact ho, q⟩
  · have n1 : i ≠ j := fun z => by subst z; rw [List.getElem?_set_self hi] at e1; cases e1; cases o1
    have n2 : i ≠ k := fun z => by subst z; rw [List.getElem?_set_self hi] at e2; cases e2; cases o2
    rw [List.getElem?_set_ne n1] at e1
    rw [List.getElem?_set_ne n2] at e2
    exact R.uniq j k t u b e1 e2 o1 o2 q1 q2
  · by_cases z : b = a
    · rw [z, upd_same]; exact fun w => by cases w
    · rw [upd_ne z]
      rcases List.mem_cons.mp hb with w | w
      · exact absurd w z
      · exact R.dom b w
  · cases e; exact List.mem_cons_self
  · have hb : b ≠ a := fun z => n (by rw [z])
    rw [upd_ne hb] at e ⊢
    exact R.st.keep b ob (fun z => by cases z) e
  · cases e
    exact ⟨d, s, by rw [upd_same, eo]⟩
  · rw [upd_ne (neA b hb)]; exact R.fresh b hb
  · rw [upd_ne (neA b hb)]; exact R.domA b hb
theorem Rep.unStrm (R : Rep K C (some a) (a :: O0) (upd H0 a o) A H σ τ) (ha : H0 a = none) (hd : ∀ b ∈ O0, H0 b ≠ none) : Rep K C none O0 H0 A H σ (unst τ) := by
  have ex : Ex (Er (A ++ a :: O0) H) (Er (A ++ O0) H) := Er.shrink fun b hb => by
    rcases List.mem_append.mp hb with z | z
    · exact List.mem_append_left _ z
    · exact List.mem_append_right _ (List.mem_cons_of_mem _ z)
  have un : ∀ (i : Nat) (s : Sl), (unst τ)[i]? = some s → s.isOwn = true → τ[i]? = some s := fun i s e o => by
    unfold unst at e
    rw [List.getElem?_map] at e
    obtain ⟨s0, e0, rfl⟩ := Option.map_eq_some_iff.mp e
    cases s0 <;> first | exact e0 | cases o
  refine ⟨by unfold unst; rw [List.length_map]; exact R.len, fun j t e => ?_, fun j k t u b e1 e2 o1 o2 q1 q2 => R.uniq j k t u b (un j t e1 o1) (un k u e2 o2) o1 o2 q1 q2, hd, (fun b e => nomatch e), ⟨fun b ob n e => ?_, (fun b e => nomatch e)⟩, fun b hb => ?_, R.domA⟩
  · unfold unst at e
    rw [List.getElem?_map] at e
    obtain ⟨s0, e0, rfl⟩ := Option.map_eq_some_iff.mp e
    have h := R.sl j s0 e0
    cases s0 with
    | un => trivial
    | dat d => obtain ⟨v, e, q⟩ := h; exact ⟨v, e, Rp.mono ex _ _ q⟩
    | strm => trivial
    | own ss => exact h
    | ownd ks ds => exact h
  · have hb : b ≠ a := fun z => by rw [z, ha] at e; cases e
    exact R.st.keep b ob (fun z => hb (by cases z; rfl)) (by rw [upd_ne hb]; exact e)
  · have h := R.fresh b hb
    have hb : b ≠ a := fun z => by rw [z, upd_same] at h; cases h
    rw [upd_ne hb] at h
    exact h
end
/-- what _law_stream does: a new list of two numbers -/
def spStrm : Sp := fun vs H Q _ => ∃ i j : Int, vs = [.int i, .int j] ∧ ∀ H1, Ex H H1 → ∀ (a : Addr) (d s : Int), H1 a = none → Q (.ref a) (upd H1 a (.lst [.int d, .int s]))
abbrev G0 : Option Addr → Hp → Prop := fun m _ => m = none
section
variable {K : PySem.W.Frag} {C : Addr} {E : XK} {τ : List Sl} {ta : TA} {t : TS} {Rt : D → Prop} {N Bk Ct : List Sl → Prop}
theorem ws_strm {i : Nat} (hi : i < τ.length) (h : WA ⟨K, C, G0⟩ ta τ fun ds => ∃ x y : Int, ds = [.int x, .int y] ∧ WS ⟨K, C, noG⟩ t (τ.set i .strm) Rt (fun τ' => N (unst τ')) (fun τ' => Bk (unst τ')) (fun τ' => Ct (unst τ'))) :
    WS ⟨K, C, G0⟩ (tSeq (tAsg (tCall spStrm [] E ta) (gName i)) t) τ Rt N Bk Ct := fun m O0 H0 A σ H hG R Dd rt nx bk ct => by
  have hG : m = none := hG
  subst hG
  refine h none O0 H0 A σ H rfl R _ fun vs H1 ds s1 r1 h1 => ?_
  obtain ⟨x, y, ed, hS⟩ := h1
  subst ed
  obtain ⟨v, r, e1, e2, v', r', e3, e4, e5⟩ := r1
  subst e5; subst e3; subst e1
  rw [show v = .int x from e2, show v' = .int y from e4]
  refine ⟨x, y, rfl, fun H2 ex a d s ha => ?_⟩
  have exS : Stp none H H2 := ⟨fun b o n e => ex b o (s1.keep b o n e), (fun b e => nomatch e)⟩
  have hn : ∀ b o, H b = some o → b ≠ a := fun b o e z => by
    have := exS.keep b o (fun z => by cases z) e
    rw [z, ha] at this; cases this
  have h0 : H0 a = none := by
    cases e : H0 a with
    | none => rfl
    | some o => exact absurd rfl (hn a o (R.st.keep a o (fun z => by cases z) e))
  have R2 := (R.step exS).wipe1 (i := i) (x := some (.ref a))
  have R3 := R2.toStrm (i := i) ha (by rw [List.length_set]; exact hi) (by rw [List.getElem?_set_self (by rw [R.len]; exact hi)]) (rfl : HO.lst [.int d, .int s] = .lst [.int d, .int s])
  rw [List.set_set] at R3
  have tr : ∀ A' H', Tr (some a) A (upd H2 a (.lst [.int d, .int s])) A' H' → Tr none A H A' H' := fun A' H' t => by
    refine ⟨fun b o _ hb e => t.keep b o (fun z => hn b o e (by cases z; rfl)) hb (by rw [upd_ne (hn b o e)]; exact exS.keep b o (fun z => by cases z) e), fun b hb => ?_, (fun b e => nomatch e)⟩
    rcases t.new b hb with z | z
    · exact .inl z
    · right
      cases e : H b with
      | none => rfl
      | some o =>
        rw [upd_ne (hn b o e), exS.keep b o (fun z => by cases z) e] at z
        cases z
  refine hS (some a) (a :: O0) _ A _ _ trivial R3 Dd (fun v H' d' st rv p => ?_) (fun A' σ' H' τ' t' R' p => nx A' σ' H' _ (tr _ _ t') (R'.unStrm h0 R.dom) p) (fun A' σ' H' τ' t' R' p => bk A' σ' H' _ (tr _ _ t') (R'.unStrm h0 R.dom) p) (fun A' σ' H' τ' t' R' p => ct A' σ' H' _ (tr _ _ t') (R'.unStrm h0 R.dom) p)
  refine rt v H' d' ⟨fun b o n e => ?_, (fun b e => nomatch e)⟩ (Rp.mono (Er.shrink fun b hb => List.mem_cons_of_mem _ hb) _ _ rv) p
  have hb : b ≠ a := fun z => by rw [z, h0] at e; cases e
  exact st.keep b o (fun z => hb (by cases z; rfl)) (by rw [upd_ne hb]; exact e)
end
theorem rep_x (ls : List Str) : ∀ f : Nat, (List.replicate f [D.str "x"]).flatten ++ ls.map D.str = (List.replicate f ("x" : Str) ++ ls).map .str
  | 0 => rfl
  | f + 1 => by
    rw [List.replicate_succ, List.replicate_succ, List.flatten_cons, List.append_assoc, rep_x ls f]
    rfl
theorem rep_sum (ls : List Str) : ∀ f : Nat, ((List.replicate f ("x" : Str) ++ ls).map (·.length)).sum = f + (ls.map (·.length)).sum
  | 0 => by simp
  | f + 1 => by
    rw [List.replicate_succ, List.cons_append, List.map_cons, List.sum_cons, rep_sum ls f]
    have : (Str.ofString "x").length = 1 := rfl
    show (Str.ofString "x").length + _ = _
    omega
theorem Siz.lnOk {ls : List Str} (h : Siz 40000 ls) : LnOk ls := ⟨Nat.le_trans h.sum (by decide), Nat.le_trans h.len (by decide), fun l hl c hc => (h.ch l hl c hc).1⟩
theorem Siz.noNl {n : Nat} {ls : List Str} (h : Siz n ls) : NoNl ls := fun l hl hc => (h.ch l hl 10 hc).2 rfl
theorem Siz.xs {ls : List Str} {f : Nat} (h : Siz 40000 ls) (hf : f ≤ 2) : LnOk (List.replicate f ("x" : Str) ++ ls) := by
  refine ⟨?_, ?_, fun l hl c hc => ?_⟩
  · rw [rep_sum]; have := h.sum; omega
  · rw [List.length_append, List.length_replicate]; have := h.len; omega
  · rcases List.mem_append.mp hl with z | z
    · rw [List.eq_of_mem_replicate z] at hc
      exact lit_ch (s := "x") (by decide +kernel) c hc
    · exact (h.ch l z c hc).1
theorem drop_xs (ls : List Str) (f : Nat) : (List.replicate f ("x" : Str) ++ ls).drop f = ls := List.drop_left' (List.length_replicate ..)
section
variable {Pr : Program} {w : World} {K : PySem.W.Frag} {mg : Str → Option Value} {base : Heap} {C CB : Addr}
abbrev fAsked : Fn := Fn2 fun d e P => ∃ (ls : List Str) (f : Nat), d = .lst (ls.map .str) ∧ e = .int (f : Nat) ∧ f ≤ 2 ∧ Siz 40000 ls ∧ P (.bl true)
theorem ok__law_asked (T : Txt w K mg C CB) : CallOk Pr w K mg base CX0 8 "_law_asked" ["_law_lines", "_law_front"] (spP K C (fAsked)) := by
  have c__law_raises := @ok__law_raises Pr w K mg base C CB T
  have c__law_read := @ok__law_read Pr w K mg base C CB T
  have c__law_reads := @ok__law_reads Pr w K mg base C CB T
  refine T.d__law_asked.ok sc__law_asked (fun vs H Q E h => len_P Fn2.len h) (fun f cdv A outer s H vs Q E hr h => ⟨_, (pss_cons (ps_asg (pe_cal c__law_read (hr.mono (by decide)) pass0 (pa_cons (pv 0) pa_nil)) (pg_tup rfl (pgs_cons (pg_name (i := 2) sc__law_asked.nd rfl (.inl rfl)) (pgs_cons (pg_name (i := 3) sc__law_asked.nd rfl (.inl rfl)) pgs_nil))))
      (pss_cons (ps_set (i := 4) sc__law_asked.nd rfl (.inl rfl) (pe_op op_cat (pe_op op_rep (pe_lst (pa_cons pe_str pa_nil)) (pv 1)) (pv 0)))
      (pss_cons (ps_if (pt_cmpR op_notN1 (pv 2) pe_non (nomark _)) (pss_one (ps_ret (pe_cal c__law_reads (hr.mono (by decide)) pass0 (pa_cons (pv 4) (pa_cons (pv 1) (pa_cons (pv 2) (pa_cons (pe_op op_add (pv 1) (pv 3)) pa_nil))))))) pss_nil)
      (pss_cons (ps_set (i := 5) sc__law_asked.nd rfl (.inl rfl) (pe_callTy cListO (by rfl) T.n_list bb_list (pa_cons (pv 4) pa_nil)))
      (pss_one (ps_ret (pe_and (pe_cal c__law_raises (hr.mono (by decide)) pass0 (pa_cons (pv 4) (pa_cons (pv 1) pa_nil))) (pe_one (pe_cmpR (op_eqD hr.units) (pv 4) (pv 5) (nomark _)))))))))), body_P h fun ds P hf => ?_⟩)
  obtain ⟨_, _, rfl, ls, f, rfl, rfl, hf, hs, p⟩ := hf
  refine ⟨Nat.le_of_ble_eq_true rfl, ?_⟩
  show WS _ _ [.dat (.lst (ls.map .str)), .dat (.int (f : Nat)), .un, .un, .un, .un] _ _ _ _
  try dsimp only [cxOf]
  have hL := hs.lnOk
  have hN := hs.noNl
  have hX := hs.xs hf
  obtain ⟨X, eX⟩ : ∃ X, X = List.replicate f ("x" : Str) ++ ls := ⟨_, rfl⟩
  have eD : X.drop f = ls := by rw [eX]; exact drop_xs ls f
  have eR := rep_x ls f
  rw [← eX] at hX eR
  have rep : ∀ P', P' (D.lst (List.replicate f [D.str "x"]).flatten) → OpD (⟨K, C, noG⟩ : Bx) rRep (.lst [.str "x"]) (.int (f : Nat)) P' := fun P' p' =>
    od_rep (by omega) (by omega) (by rw [Int.toNat_natCast]; show 1 * f ≤ _; omega) (by rw [Int.toNat_natCast]; exact p')
  have cat : ∀ P', P' (D.lst (X.map .str)) → OpD (⟨K, C, noG⟩ : Bx) rCat (.lst (List.replicate f [D.str "x"]).flatten) (.lst (ls.map .str)) P' := fun P' p' =>
    od_cat (by
      rw [← List.length_append, eR, List.length_map]
      have := hX.len
      omega) (by rw [eR]; exact p')
  walk_at "w"
  refine ⟨fun hs' tx n L hc hA => ?_, fun hno z => ?_⟩
  · refine g_WG ?_
    walk_at "w"
    refine rep _ ?_
    walk_at "w"
    refine cat _ ?_
    walk_at "w"
    refine ⟨X, f, n, L, hs', tx, rfl, rfl, rfl, ?_, hX, by rw [eD]; exact hc, hA, p⟩
    rw [show ((f + n : Nat) : Int) = ((f : Nat) : Int) + ((n : Nat) : Int) by omega]
  · refine g_WG ?_
    walk_at "w"
    refine rep _ ?_
    walk_at "w"
    refine cat _ ?_
    walk_at "w"
    refine ⟨X, f, rfl, rfl, hX, fun hs' tx n L hc => ?_, ?_⟩
    · rw [eD] at hc
      exact hno hs' tx n L hc
    · refine ⟨true, rfl, fun _ => ?_, fun z => by cases z⟩
      walk_at "w"
      refine od_eqD (shp_strs hX.ch) (shp_strs hX.ch) ?_
      rw [eqv_strs X X, decide_eq_true rfl]
      exact p
end
end
section
open PySem PySem.Spec PyProof.Rows L2
open Evl (Ex ex_rd ex_l ex_t)
open CwR
set_option autoImplicit false
open Bod (NmOk NuOk TtOk TxOk)
/-! pure: the mail of a letter, read back. -/
theorem spl_ne (l acc : List Nat) : ∃ q r, TL.spl [10] 0 acc l = q :: r := by
  have := spl_count l acc
  cases e : TL.spl [10] 0 acc l with
  | nil => rw [e] at this; simp at this
  | cons q r => exact ⟨q, r, rfl⟩
theorem spl_back : ∀ (l acc : List Nat), TL.joinL [10] (TL.spl [10] 0 acc l) = acc ++ l
  | [], acc => by rw [TL.spl_nil]; exact (List.append_nil _).symm
  | c :: r, acc => by
    by_cases h : c = 10
    · subst h
      have hp : TL.pre [10] (10 :: r) = true := TL.pre_self [10] r
      rw [TL.spl_hit hp]
      show TL.joinL [10] (acc :: TL.spl [10] 0 [] r) = _
      obtain ⟨q, t, e⟩ := spl_ne r []
      have ih := spl_back r []
      rw [e] at ih ⊢
      show acc ++ ([10] ++ TL.joinL [10] (q :: t)) = _
      rw [ih]; rfl
    · rw [TL.spl_miss (TL.pre_of_head [] r h), spl_back r (acc ++ [c]), List.append_assoc]; rfl
theorem spl_free : ∀ (l acc : List Nat), 10 ∉ acc → ∀ p ∈ TL.spl [10] 0 acc l, 10 ∉ p
  | [], acc, h, p, hp => by rw [TL.spl_nil] at hp; rw [List.mem_singleton.mp hp]; exact h
  | c :: r, acc, h, p, hp => by
    by_cases e : c = 10
    · subst e
      have hq : TL.pre [10] (10 :: r) = true := TL.pre_self [10] r
      rw [TL.spl_hit hq] at hp
      rcases List.mem_cons.mp hp with z | z
      · rw [z]; exact h
      · exact spl_free r [] (fun z => nomatch z) p z
    · rw [TL.spl_miss (TL.pre_of_head [] r e)] at hp
      refine spl_free r (acc ++ [c]) (fun z => ?_) p hp
      rcases List.mem_append.mp z with w | w
      · exact h w
      · exact e (List.mem_singleton.mp w).symm
theorem split_nl_tl (t : Str) : (Txt.split t "\n").map TL.tl = TL.spl [10] 0 [] (TL.tl t) := TL.split_spl t "\n" (fun z => by cases z) (TL.kind_ok (by decide +kernel))
theorem split_nl_back (t : Str) : Txt.join "\n" (Txt.split t "\n") = t := TL.ext_tl (by
  rw [TL.join_eq, TL.tl_join, split_nl_tl]
  exact spl_back _ [])
theorem split_nl_free (t : Str) : ∀ p ∈ Txt.split t "\n", 10 ∉ TL.tl p := fun p hp => by
  have := List.mem_map_of_mem (f := TL.tl) hp
  rw [split_nl_tl] at this
  exact spl_free _ [] (fun z => nomatch z) _ this
theorem split_nl_ne (t : Str) : Txt.split t "\n" ≠ [] := fun z => by
  have := split_nl_tl t
  obtain ⟨q, r, e⟩ := spl_ne (TL.tl t) []
  rw [z, e] at this
  cases this
/-! ### plain signs, no newline -/
theorem nm_lns {x : Str} (h : NmOk x) : LnS x := fun c hc => by have := nmCh_iff.mp (nm_ch h hc); omega
theorem num_lns {n : Int} (h0 : 0 ≤ n) : LnS (numS n) := fun c hc => by
  obtain ⟨m, rfl⟩ := Int.eq_ofNat_of_zero_le h0
  rw [tl_numS] at hc
  have := TL.numL_digits m c hc
  omega
theorem tt_lns {t : Str} (h : TtOk t) : LnS t := fun c hc => by
  have h : (decide (t.length ≤ 60) && plainL (TL.tl t)) = true := h
  simp only [Bool.and_eq_true, decide_eq_true_eq] at h
  have := List.all_eq_true.mp h.2 c hc
  unfold plCh at this
  simp only [Bool.and_eq_true, decide_eq_true_eq] at this
  omega
theorem lit_lns {s : Str} (h : (TL.tl s).all (fun c => decide (c < 128) && !decide (c = 10)) = true) : LnS s := fun c hc => by
  have := List.all_eq_true.mp h c hc
  simpa using this
theorem joinL_lns {S : List Nat} (hS : ∀ c ∈ S, c < 128 ∧ c ≠ 10) : ∀ {ls : List (List Nat)}, (∀ l ∈ ls, ∀ c ∈ l, c < 128 ∧ c ≠ 10) → ∀ c ∈ TL.joinL S ls, c < 128 ∧ c ≠ 10
  | [], _, c, hc => by cases hc
  | [a], h, c, hc => h a List.mem_cons_self c hc
  | a :: b :: r, h, c, hc => by
    have hc : c ∈ a ++ (S ++ TL.joinL S (b :: r)) := hc
    rcases List.mem_append.mp hc with z | z
    · exact h a List.mem_cons_self c z
    · rcases List.mem_append.mp z with z | z
      · exact hS c z
      · exact joinL_lns hS (fun l hl => h l (List.mem_cons_of_mem _ hl)) c z
theorem joinS_lns {S : Str} (hS : LnS S) {ss : List Str} (h : ∀ s ∈ ss, LnS s) : LnS (Txt.join S ss) := fun c hc => by
  rw [TL.join_eq, TL.tl_join] at hc
  exact joinL_lns hS (fun l hl => by obtain ⟨s, hs, rfl⟩ := List.mem_map.mp hl; exact h s hs) c hc
theorem refS_lns {x : Str} {n : Int} (h1 : NmOk x) (h2 : NuOk n) : LnS (refS x n) := by
  obtain ⟨m, rfl, _, _⟩ := numOk_nat h2
  exact lns_app (lns_app (nm_lns h1) (lit_lns (by decide +kernel))) (num_lns (by omega))
theorem linesS_lns (t : Str) : LnS (linesS t) := by
  refine lns_app (lit_lns (by decide +kernel)) (num_lns ?_)
  rw [count_nl]; omega
theorem hdr_lns {L : Ltr} (h : L.ok) : ∀ s ∈ L.hdr, LnS s := by
  intro s hs
  unfold Ltr.hdr at hs
  rcases List.mem_append.mp hs with z | z
  · obtain ⟨m, em, _, _⟩ := numOk_nat h.s
    simp only [List.mem_cons, List.not_mem_nil, or_false] at z
    rcases z with rfl | rfl | rfl | rfl
    · exact lns_app (lit_lns (by decide +kernel)) (refS_lns h.a h.n)
    · exact lns_app (lit_lns (by decide +kernel)) (num_lns (by omega))
    · refine lns_app (lit_lns (by decide +kernel)) (joinS_lns (lit_lns (by decide +kernel)) fun s hs => ?_)
      obtain ⟨p, hp, rfl⟩ := List.mem_map.mp hs
      exact refS_lns (h.es p hp).1 (h.es p hp).2
    · refine lns_app (lit_lns (by decide +kernel)) ?_
      cases L.b <;> exact lit_lns (by rfl)
  · have hb := h.b
    revert hb z
    cases L.b <;> intro z hb <;> simp only [Bod.lines, List.mem_cons, List.not_mem_nil, or_false] at z
    · rcases z with rfl | rfl
      · exact lns_app (lit_lns (by decide +kernel)) (tt_lns hb.1)
      · exact lns_app (lit_lns (by decide +kernel)) (joinS_lns (lit_lns (by decide +kernel)) fun s hs => nm_lns (hb.2.2.1 s hs))
    · subst z; exact linesS_lns _
    · rcases z with rfl | rfl
      · exact lns_app (lit_lns (by decide +kernel)) (refS_lns hb.1.1 hb.1.2)
      · exact linesS_lns _
    · rcases z with rfl | rfl
      · exact lns_app (lit_lns (by decide +kernel)) (refS_lns hb.1.1 hb.1.2)
      · exact linesS_lns _
    · subst z; exact lns_app (lit_lns (by decide +kernel)) (refS_lns hb.1 hb.2)
    · rcases z with rfl | rfl
      · exact lns_app (lit_lns (by decide +kernel)) (refS_lns hb.1.1 hb.1.2)
      · exact lns_app (lit_lns (by decide +kernel)) (nm_lns hb.2)
    · subst z; exact lns_app (lit_lns (by decide +kernel)) (tt_lns hb)
    · subst z; exact lns_app (lit_lns (by decide +kernel)) (nm_lns hb)
    · subst z; exact lns_app (lit_lns (by decide +kernel)) (nm_lns hb)
    · subst z; exact lns_app (lit_lns (by decide +kernel)) (nm_lns hb)
/-- a line that begins with no blank -/
def Hd (x : Str) : Prop := ∃ c r, TL.tl x = c :: r ∧ c ≠ 32
theorem hd_app {w : Str} (y : Str) (h : Hd w) : Hd (w ++ y) := by
  obtain ⟨c, r, e, n⟩ := h
  exact ⟨c, r ++ TL.tl y, by rw [TL.tl_append, e]; rfl, n⟩
theorem hd_lit {w : Str} (h : (match TL.tl w with | c :: _ => !decide (c = 32) | [] => false) = true) : Hd w := by
  cases e : TL.tl w with
  | nil => rw [e] at h; cases h
  | cons c r => rw [e] at h; exact ⟨c, r, e, by simpa using h⟩
theorem hdr_hd (L : Ltr) : ∀ s ∈ L.hdr, Hd s := by
  intro s hs
  unfold Ltr.hdr at hs
  rcases List.mem_append.mp hs with z | z
  · simp only [List.mem_cons, List.not_mem_nil, or_false] at z
    rcases z with rfl | rfl | rfl | rfl <;> exact hd_app _ (hd_lit (by decide +kernel))
  · revert z
    cases L.b <;> intro z <;> simp only [Bod.lines, List.mem_cons, List.not_mem_nil, or_false] at z
    · rcases z with rfl | rfl <;> exact hd_app _ (hd_lit (by decide +kernel))
    · subst z; exact hd_app _ (hd_lit (by decide +kernel))
    · rcases z with rfl | rfl <;> exact hd_app _ (hd_lit (by decide +kernel))
    · rcases z with rfl | rfl <;> exact hd_app _ (hd_lit (by decide +kernel))
    · subst z; exact hd_app _ (hd_lit (by decide +kernel))
    · rcases z with rfl | rfl <;> exact hd_app _ (hd_lit (by decide +kernel))
    · subst z; exact hd_app _ (hd_lit (by decide +kernel))
    · subst z; exact hd_app _ (hd_lit (by decide +kernel))
    · subst z; exact hd_app _ (hd_lit (by decide +kernel))
    · subst z; exact hd_app _ (hd_lit (by decide +kernel))
/-! ### folded, then whole again -/
theorem fst1_blank {x : Str} (h : (TL.tl x).head? = some 32) : fst1 x = " " := by
  cases e : TL.tl x with
  | nil => rw [e] at h; cases h
  | cons c r =>
    rw [e] at h
    have : c = 32 := by simpa using h
    subst this
    rw [fst1_head e]; rfl
theorem fst1_nb {x : Str} (h : Hd x) : ¬ fst1 x = " " := fun z => by
  obtain ⟨c, r, e, n⟩ := h
  rw [fst1_head e] at z
  have := congrArg TL.tl z
  have : [c] = [32] := this
  cases this
  exact n rfl
theorem unf_tail : ∀ (ps acc : List Str) (y : Str), (∀ p ∈ ps, (TL.tl p).head? = some 32) → ∃ z, unfL (acc ++ [y]) ps = some (acc ++ [z]) ∧ TL.tl z = TL.tl y ++ (ps.map TL.tl).flatten
  | [], acc, y, _ => ⟨y, rfl, by simp⟩
  | p :: r, acc, y, h => by
    have hp := fst1_blank (h p List.mem_cons_self)
    obtain ⟨z, h1, h2⟩ := unf_tail r acc (y ++ p) fun q hq => h q (List.mem_cons_of_mem _ hq)
    refine ⟨z, ?_, ?_⟩
    · rw [unfL_cons, unf_yes hp (by simp)]
      have e1 : (acc ++ [y]).length - 1 = acc.length := by simp
      have e2 : (acc ++ [y]).getD ((acc ++ [y]).length - 1) Str.empty = y := by rw [e1, List.getD_eq_getElem?_getD, List.getElem?_concat_length]; rfl
      have e3 : (acc ++ [y]).set ((acc ++ [y]).length - 1) (y ++ p) = acc ++ [y ++ p] := by rw [e1, List.set_append_right _ _ (Nat.le_refl _), Nat.sub_self]; rfl
      rw [e2, e3]
      exact h1
    · rw [h2, TL.tl_append, List.map_cons, List.flatten_cons, List.append_assoc]
theorem unf_fold {x : Str} {ps acc : List Str} (h : FoldOk x ps) (hx : Hd x) : unfL acc ps = some (acc ++ [x]) := by
  obtain ⟨hp, hn⟩ := h
  cases ps with
  | nil => exact absurd rfl hn
  | cons p r =>
    have hc := hp.cat
    rw [List.take_of_length_le (by rw [TL.len_tl]; exact Nat.le_refl _), List.map_cons, List.flatten_cons] at hc
    have hpn := hp.ne p List.mem_cons_self
    obtain ⟨c, t, ex, n⟩ := hx
    have hd : Hd p := by
      cases e : TL.tl p with
      | nil => exact absurd e hpn
      | cons a b =>
        rw [e, ex] at hc
        have : a = c := by injection hc
        exact ⟨a, b, e, by rw [this]; exact n⟩
    rw [unfL_cons, unf_no (fst1_nb hd)]
    obtain ⟨z, h1, h2⟩ := unf_tail r acc p fun q hq => hp.sp q hq
    have : z = x := TL.ext_tl (by rw [h2, hc])
    rw [this] at h1
    exact h1
theorem unf_folds {hs ss : List Str} (h : Folds hs ss) (hh : ∀ x ∈ hs, Hd x) : unfL [] ss = some hs := by
  induction h with
  | nil => rfl
  | snoc h f ih =>
    rw [unfL_app, ih fun x hx => hh x (List.mem_append_left _ hx)]
    exact unf_fold f (hh _ (List.mem_append_right _ List.mem_cons_self))
theorem folds_sum {hs ss : List Str} (h : Folds hs ss) : (ss.map (·.length)).sum = (hs.map (·.length)).sum := by
  induction h with
  | nil => rfl
  | @snoc hs ss ps x h f ih =>
    have e : (ps.map (·.length)).sum = x.length := by
      have h1 := congrArg List.length f.1.cat
      rw [List.take_of_length_le (by rw [TL.len_tl]; exact Nat.le_refl _), List.length_flatten, List.map_map] at h1
      rw [TL.len_tl x, ← h1]
      exact congrArg List.sum (List.map_congr_left fun p _ => TL.len_tl p)
    rw [List.map_append, List.map_append, List.sum_append, List.sum_append, ih, e]
    rfl
theorem folds_ch {hs ss : List Str} (h : Folds hs ss) (hh : ∀ x ∈ hs, LnS x) : ∀ s ∈ ss, LnS s ∧ s ≠ ("" : Str) := by
  induction h with
  | nil => intro s hs; cases hs
  | @snoc hs ss ps x h f ih =>
    intro s hs'
    rcases List.mem_append.mp hs' with z | z
    · exact ih (fun x hx => hh x (List.mem_append_left _ hx)) s z
    · refine ⟨fun c hc => hh x (List.mem_append_right _ List.mem_cons_self) c ?_, fun e => f.1.ne s z (by rw [e]; rfl)⟩
      have h1 := f.1.cat
      rw [List.take_of_length_le (by rw [TL.len_tl]; exact Nat.le_refl _)] at h1
      rw [← h1]
      exact List.mem_flatten.mpr ⟨TL.tl s, List.mem_map_of_mem z, hc⟩
theorem hdr_sum {L : Ltr} (h : L.ok) (hl : L.es.length ≤ 47) : (L.hdr.map (·.length)).sum ≤ 2500 := by
  have app : ∀ (w y : Str) (k n : Nat), w.length = k → y.length ≤ n → (w ++ y).length ≤ k + n := fun w y k n h1 h2 => by rw [slen_app]; omega
  have nl : ∀ t : Str, t.length ≤ 400 → (linesS t).length ≤ 7 + 19 := fun t ht => by
    have := cnt_bound ht
    exact app _ _ 7 19 rfl (numS_len this.1 (by omega))
  obtain ⟨m, em, _, _⟩ := numOk_nat h.s
  have b1 := app "From: " _ 6 32 rfl (refS_len h.a h.n)
  have b2 := app "Stamp: " _ 7 19 rfl (numS_len (n := L.s) (by omega) (by omega))
  have b3 : ("Seen: " ++ seenS L.es).length ≤ 6 + 1700 := by
    refine app "Seen: " _ 6 1700 rfl ?_
    have h1 := join_len (Str.ofString ", ") (L.es.map fun p => refS p.1 p.2)
    have h2 := sum_len (n := 32) (ss := L.es.map fun p => refS p.1 p.2) fun s hs => by
      obtain ⟨r, hr, rfl⟩ := List.mem_map.mp hs
      exact refS_len (h.es r hr).1 (h.es r hr).2
    have e5 : (Str.ofString ", ").length = 2 := rfl
    rw [e5] at h1
    rw [List.length_map] at h1 h2
    show (Txt.join (Str.ofString ", ") (L.es.map fun p => refS p.1 p.2)).length ≤ 1700
    omega
  have b4 := app "Kind: " _ 6 6 rfl (kind_len L.b)
  have b5 : (L.b.lines.map (·.length)).sum ≤ 400 := by
    have hb := h.b
    revert hb
    cases L.b <;> intro hb <;> simp only [Bod.lines, List.map_cons, List.map_nil, List.sum_cons, List.sum_nil]
    · rename_i t ms
      have c1 := app "Title: " t 7 60 rfl (tt_len hb.1)
      have h1 := join_len (Str.ofString ", ") ms
      have h2 := sum_len (n := 12) fun m hm => nm_len (hb.2.2.1 m hm)
      have h3 := hb.2.1
      have e5 : (Str.ofString ", ").length = 2 := rfl
      rw [e5] at h1
      have c2 := app "Members: " (Txt.join (Str.ofString ", ") ms) 9 300 rfl (by omega)
      have c2 : (Str.ofString "Members: " ++ Txt.join (Str.ofString ", ") ms).length ≤ 309 := c2
      omega
    · have := nl _ (tx_len hb); omega
    · have := nl _ (tx_len hb.2); have := app "Ref: " _ 5 32 rfl (refS_len hb.1.1 hb.1.2); omega
    · have := nl _ (tx_len hb.2); have := app "Ref: " _ 5 32 rfl (refS_len hb.1.1 hb.1.2); omega
    · have := app "Ref: " _ 5 32 rfl (refS_len hb.1 hb.2); omega
    · have := app "Ref: " _ 5 32 rfl (refS_len hb.1.1 hb.1.2); have := app "Word: " _ 6 12 rfl (nm_len hb.2); omega
    · have := app "Title: " _ 7 60 rfl (tt_len hb); omega
    · have := app "Name: " _ 6 12 rfl (nm_len hb); omega
    · have := app "Name: " _ 6 12 rfl (nm_len hb); omega
    · have := app "Name: " _ 6 12 rfl (nm_len hb); omega
    · omega
  unfold Ltr.hdr
  rw [List.map_append, List.sum_append]
  simp only [List.map_cons, List.map_nil, List.sum_cons, List.sum_nil]
  omega
theorem rest1_bar (r : Str) : rest1 (("|" : Str) ++ r) = r := TL.ext_tl (by rw [rest1_tl, TL.tl_append]; rfl)
theorem fst1_bar (r : Str) : fst1 (("|" : Str) ++ r) = "|" := TL.ext_tl (by rw [fst1_tl, TL.tl_append]; rfl)
theorem text_tx {b : Bod} (h : b.ok) {t : Str} (e : b.text = some t) : TxOk t := by
  revert e h
  cases b <;> intro h e <;> first | (cases e; done) | (cases e; first | exact h | exact h.2)
theorem rows_facts {b : Bod} (h : b.ok) : (∀ r ∈ rowsOf b, fst1 r = "|" ∧ LnS r) ∧ ((rowsOf b).map (·.length)).sum ≤ 801 ∧ (rowsOf b).length ≤ 401 ∧ txR ((rowsOf b).map rest1) = b.text := by
  unfold rowsOf
  cases et : b.text with
  | none => exact ⟨fun r hr => (nomatch hr), Nat.zero_le _, Nat.zero_le _, rfl⟩
  | some t =>
    have ht := text_tx h et
    have htl := tx_len ht
    have hsp := split_parts t "\n" (fun z => by cases z) (by decide +kernel)
    have hlen : (Txt.split t "\n").length ≤ 401 := Nat.le_trans hsp.1 (by omega)
    refine ⟨fun r hr => ?_, ?_, by rw [List.length_map]; exact hlen, ?_⟩
    · obtain ⟨s, hs, rfl⟩ := List.mem_map.mp hr
      refine ⟨fst1_bar s, lns_app (lit_lns (by decide +kernel)) fun c hc => ⟨tx_ch ht c ((hsp.2 s hs).2 c hc), fun z => split_nl_free t s hs (by rw [← z]; exact hc)⟩⟩
    · have e1 : (((Txt.split t "\n").map fun r => ("|" : Str) ++ r).map (·.length)).sum = (Txt.split t "\n").length + ((Txt.split t "\n").map (·.length)).sum := by
        generalize Txt.split t "\n" = ss
        induction ss with
        | nil => rfl
        | cons a r ih =>
          simp only [List.map_cons, List.sum_cons, List.length_cons] at ih ⊢
          rw [ih, slen_app]
          have : (Str.ofString "|").length = 1 := rfl
          omega
      have e2 : ((Txt.split t "\n").map (·.length)).sum ≤ t.length := by
        have hb := congrArg (fun z : Str => (TL.tl z).length) (split_nl_back t)
        have hb : (TL.tl (Txt.join "\n" (Txt.split t "\n"))).length = (TL.tl t).length := hb
        rw [TL.join_eq, TL.tl_join] at hb
        rw [TL.len_tl t, ← hb]
        generalize Txt.split t "\n" = ss
        induction ss with
        | nil => exact Nat.le_refl _
        | cons a r ih =>
          cases r with
          | nil => show a.length + 0 ≤ (TL.tl a).length; rw [TL.len_tl]; exact Nat.le_refl _
          | cons b q =>
            show a.length + ((b :: q).map (·.length)).sum ≤ (TL.tl a ++ (TL.tl "\n" ++ TL.joinL (TL.tl "\n") ((b :: q).map TL.tl))).length
            rw [List.length_append, List.length_append, TL.len_tl a]
            omega
      rw [e1]
      omega
    · have e1 : ((Txt.split t "\n").map fun r => ("|" : Str) ++ r).map rest1 = Txt.split t "\n" := by
        rw [List.map_map]
        conv => rhs; rw [← List.map_id (Txt.split t "\n")]
        exact List.map_congr_left fun r _ => rest1_bar r
      rw [e1]
      rw [txR_some (split_nl_ne t), split_nl_back]
theorem mail_back {L : Ltr} {ls : List Str} (h : L.ok) (hm : MailOk L ls) : cutM ls = some (L.hdr, L.b.text, ls.length) := by
  obtain ⟨ss, hf, rfl⟩ := hm.ex
  obtain ⟨r1, r2, r3, r4⟩ := rows_facts h.b
  have hc := folds_ch hf (hdr_lns h)
  have hu := unf_folds hf (hdr_hd L)
  have e0 : ss ++ ([""] : List Str) ++ rowsOf L.b ++ (["."] : List Str) = ss ++ (("" : Str) :: (rowsOf L.b ++ (["."] : List Str))) := by simp
  rw [e0]
  have t0 : (ss ++ (("" : Str) :: (rowsOf L.b ++ (["."] : List Str)))).take ss.length = ss := List.take_left
  have d0 : (ss ++ (("" : Str) :: (rowsOf L.b ++ (["."] : List Str)))).drop (ss.length + 1) = rowsOf L.b ++ (["."] : List Str) := by
    rw [← List.drop_drop, List.drop_left]; rfl
  have t1 : (rowsOf L.b ++ (["."] : List Str)).take (rowsOf L.b).length = rowsOf L.b := List.take_left
  have := cutM_dot (ls := ss ++ (("" : Str) :: (rowsOf L.b ++ (["."] : List Str)))) (j := ss.length) (k := (rowsOf L.b).length) (hs := L.hdr) (by rw [t0]; exact fun l hl => (hc l hl).2) (by rw [List.getElem?_append_right (Nat.le_refl _), Nat.sub_self]; rfl)
    (by rw [d0, t1]; exact fun l hl => (r1 l hl).1) (by rw [d0, List.getElem?_append_right (Nat.le_refl _), Nat.sub_self]; rfl) (by rw [t0]; exact hu)
  rw [this, d0, t1, r4]
  congr 3
  simp only [List.length_append, List.length_cons, List.length_nil]
  omega
theorem mail_siz {L : Ltr} {ls : List Str} (h : L.ok) (hl : L.es.length ≤ 47) (hm : MailOk L ls) : Siz 4000 ls := by
  obtain ⟨ss, hf, rfl⟩ := hm.ex
  obtain ⟨r1, r2, r3, r4⟩ := rows_facts h.b
  have hc := folds_ch hf (hdr_lns h)
  have h1 := folds_sum hf
  have h2 := hdr_sum h hl
  have h3 := folds_len hf
  have e1 : (Str.ofString "").length = 0 := rfl
  have e2 : (Str.ofString ".").length = 1 := rfl
  refine ⟨?_, ?_, fun l hl => ?_⟩
  · simp only [List.map_append, List.sum_append, List.map_cons, List.map_nil, List.sum_cons, List.sum_nil]
    omega
  · simp only [List.length_append, List.length_cons, List.length_nil]
    omega
  · rcases List.mem_append.mp hl with z | z
    · rcases List.mem_append.mp z with z | z
      · rcases List.mem_append.mp z with z | z
        · exact (hc l z).1
        · rw [List.mem_singleton.mp z]; exact fun c hc => (nomatch hc)
      · exact (r1 l z).2
    · rw [List.mem_singleton.mp z]; exact lit_lns (by decide +kernel)
end
section
open PySem PySem.Spec PyProof.Rows L2
open Evl (Ex ex_rd ex_l ex_t)
open CwR
set_option autoImplicit false
open Bod (NmOk NuOk TtOk TxOk)
section
variable {Pr : Program} {w : World} {K : PySem.W.Frag} {mg : Str → Option Value} {base : Heap} {C CB : Addr}
abbrev lawL : Str := "abcdefghijklmnopqrstuvwxyz0123456789"
theorem lawL_tl : TL.tl lawL = lettersL ++ digitsL := by rfl
theorem lawL_len : lawL.length = 36 := rfl
theorem lawL_mem {i : Int} {c : Nat} (h : (TL.tl lawL)[i.toNat]? = some c) : nmCh c = true := by
  have := List.mem_of_getElem? h
  rw [lawL_tl] at this
  unfold nmCh
  rcases List.mem_append.mp this with z | z
  · simp [z]
  · simp [z]
theorem lawL_head {i : Int} {c : Nat} (h0 : 0 ≤ i) (h1 : i < 26) (h : (TL.tl lawL)[i.toNat]? = some c) : c ∈ lettersL := by
  rw [lawL_tl] at h
  have e : lettersL.length = 26 := by rfl
  rw [List.getElem?_append_left (by rw [e]; omega)] at h
  exact List.mem_of_getElem? h
/-- a name that is not at its end -/
def NmPre (x : Str) : Prop := (∀ c ∈ TL.tl x, nmCh c = true) ∧ headL (TL.tl x) = true
theorem nmPre_one {c : Nat} (h : c ∈ lettersL) : NmPre ⟨#[c]⟩ := by
  refine ⟨fun d hd => ?_, ?_⟩
  · have : d = c := List.mem_singleton.mp hd
    rw [this]; unfold nmCh; simp [h]
  · show decide (c ∈ lettersL) = true
    simp [h]
theorem nmPre_app {x : Str} {c : Nat} (hx : NmPre x) (h : nmCh c = true) : NmPre (x ++ ⟨#[c]⟩) := by
  refine ⟨fun d hd => ?_, ?_⟩
  · rw [TL.tl_append] at hd
    rcases List.mem_append.mp hd with z | z
    · exact hx.1 d z
    · rw [List.mem_singleton.mp z]; exact h
  · rw [TL.tl_append]
    have := hx.2
    cases e : TL.tl x with
    | nil => rw [e] at this; cases this
    | cons a r => rw [e] at this; exact this
theorem nmPre_ok {x : Str} (h : NmPre x) (h1 : 1 ≤ x.length) (h2 : x.length ≤ 12) : NmOk x := by
  rw [TL.len_tl] at h1 h2
  show (decide (1 ≤ (TL.tl x).length) && (decide ((TL.tl x).length ≤ 12) && ((TL.tl x).all nmCh && headL (TL.tl x)))) = true
  rw [List.all_eq_true.mpr h.1, h.2, decide_eq_true h1, decide_eq_true h2]; rfl
theorem ok__law_name (T : Txt w K mg C CB) : CallOk Pr w K mg base CX0 2 "_law_name" ["_law_stream_here"] (spG K C (fName)) := by
  have c__law_next := @ok__law_next Pr w K mg base C CB T
  refine T.d__law_name.ok sc__law_name (fun vs H Q E h => len_G Fn0.len h) (fun f cdv A outer s H vs Q E hr h => ⟨_, (pss_cons (ps_set (i := 1) sc__law_name.nd rfl (.inl rfl) pe_str)
      (pss_cons (ps_set (i := 2) sc__law_name.nd rfl (.inl rfl) (pe_cal c__law_next (hr.mono (by decide)) pass0 (pa_cons (pv 0) (pa_cons pe_int pa_nil))))
      (pss_cons (ps_if (pt_cmpR op_eq (pv 2) pe_int (nomark _)) (pss_one (ps_ret (pe_ix ix_tup (pe_tup (pa_cons pe_str (pa_cons pe_str (pa_cons pe_str (pa_cons pe_str (pa_cons pe_str (pa_cons pe_str pa_nil))))))) (pe_cal c__law_next (hr.mono (by decide)) pass0 (pa_cons (pv 0) (pa_cons pe_int pa_nil))) (fun _ _ => rfl)))) pss_nil)
      (pss_cons (ps_set (i := 3) sc__law_name.nd rfl (.inl rfl) (pe_ix ix_tup (pe_tup (pa_cons pe_int (pa_cons pe_int (pa_cons (pe_cal c__law_next (hr.mono (by decide)) pass0 (pa_cons (pv 0) (pa_cons pe_int pa_nil))) pa_nil)))) (pe_op op_sub (pv 2) pe_int) (fun _ _ => rfl)))
      (pss_cons (ps_set (i := 4) sc__law_name.nd rfl (.inl rfl) (pe_ix ix_str (pv 1) (pe_cal c__law_next (hr.mono (by decide)) pass0 (pa_cons (pv 0) (pa_cons pe_int pa_nil))) (fun _ _ => rfl)))
      (pss_cons (ps_for PassesOwn.never rfl (pi_range1 rfl T.n_range (pa_cons (pv 3) pa_nil)) (pg_name (i := 5) sc__law_name.nd rfl (.inl rfl))
      (pss_one (ps_set (i := 4) sc__law_name.nd rfl (.inl rfl) (pe_op oAddS (pv 4) (pe_ix ix_str (pv 1) (pe_cal c__law_next (hr.mono (by decide)) pass0 (pa_cons (pv 0) (pa_cons pe_int pa_nil))) (fun _ _ => rfl))))))
      (pss_one (ps_ret (pv 4))))))))), body_G h fun ds P hf => ?_⟩)
  obtain ⟨rfl, p⟩ := hf
  refine ⟨Nat.le_of_ble_eq_true rfl, ?_⟩
  show WS _ _ [.strm, .un, .un, .un, .un, .un] _ _ _ _
  try dsimp only [cxOf]
  have eL : (Str.ofString "abcdefghijklmnopqrstuvwxyz0123456789").length = 36 := rfl
  have eL2 : (Str.ofString "abcdefghijklmnopqrstuvwxyz0123456789").length ≤ 100000 := by omega
  walk_at "w"
  refine if_2 (fun h1 => ?_) (fun h1 => ?_)
  · walk_at "w"
    refine od_ixT_all (by omega) (by simp only [List.length_cons, List.length_nil]; omega) (fun d hd => ?_)
    have hd := List.mem_of_getElem? hd
    simp only [List.mem_cons, List.not_mem_nil, or_false] at hd
    rcases hd with rfl | rfl | rfl | rfl | rfl | rfl <;> exact p _ (by decide +kernel)
  · simp only [decide_eq_false_iff_not] at h1
    walk_at "w"
    refine od_ixT_all (by omega) (by simp only [List.length_cons, List.length_nil]; omega) (fun d hd => ?_)
    have hd := List.mem_of_getElem? hd
    obtain ⟨s, rfl, hs⟩ : ∃ s : Int, d = .int s ∧ 0 ≤ s ∧ s ≤ 11 := by
      simp only [List.mem_cons, List.not_mem_nil, or_false] at hd
      rcases hd with rfl | rfl | rfl
      · exact ⟨_, rfl, by omega⟩
      · exact ⟨_, rfl, by omega⟩
      · exact ⟨_, rfl, by omega⟩
    walk_at "w"
    refine od_ixS_all eL2 (by omega) (by rw [eL]; omega) (fun c hc => ?_)
    have hc := lawL_head (by omega) (by omega) hc
    walk_at "w"
    refine ForInv.mk (fun i τ' => ∃ s2 s3 x k, τ' = [.strm, .dat (.str lawL), s2, s3, .dat (.str x), k] ∧ NmPre x ∧ x.length = i + 1) ⟨_, _, _, _, rfl, nmPre_one hc, rfl⟩ (fun i d τ' hd hI => ?_) (fun τ' hI => ?_)
    · obtain ⟨s2, s3, x, k, rfl, hx, hxl⟩ := hI
      obtain ⟨hi, rfl⟩ := rgD_get hd
      walk_at "w"
      refine od_ixS_all eL2 (by omega) (by rw [eL]; omega) (fun c' hc' => ?_)
      have hc' := nmPre_app hx (lawL_mem hc')
      walk_at "w"
      rw [slen_app, hxl, slen_one]
    · obtain ⟨s2, s3, x, k, rfl, hx, hxl⟩ := hI
      rw [rgD_len] at hxl
      walk_at "w"
      exact p _ (nmPre_ok hx (by omega) (by omega))
abbrev lawC : Str := (" !\"#$&'()*+,-./0123456789:;<=>?@ABCDEFGHIJKLMNOPQRSTUVWXYZ[\\]^_`" : Str) ++ ("abcdefghijklmnopqrstuvwxyz{|}~" : Str)
theorem lawC_len : lawC.length = 94 := rfl
theorem lawC_ch {i : Int} {c : Nat} (h : (TL.tl lawC)[i.toNat]? = some c) : plCh c = true := by
  have : ∀ c ∈ TL.tl lawC, plCh c = true := by decide +kernel
  exact this c (List.mem_of_getElem? h)
abbrev PlS (x : Str) : Prop := ∀ c ∈ TL.tl x, plCh c = true
theorem pls_app {x : Str} {c : Nat} (hx : PlS x) (h : plCh c = true) : PlS (x ++ ⟨#[c]⟩) := fun d hd => by
  rw [TL.tl_append] at hd
  rcases List.mem_append.mp hd with z | z
  · exact hx d z
  · rw [List.mem_singleton.mp z]; exact h
abbrev fLine : Fn := Fn1 fun d P => ∃ n : Int, d = .int n ∧ 0 ≤ n ∧ n ≤ 400 ∧ AllStr (fun x => (x.length : Int) = n ∧ PlS x) P
abbrev fTitle : Fn := Fn0 fun P => AllStr TtOk P
abbrev fText : Fn := Fn0 fun P => AllStr TxOk P
theorem ok__law_line (T : Txt w K mg C CB) : CallOk Pr w K mg base CX0 2 "_law_line" ["_law_stream_here", "_law_size"] (spG K C (fLine)) := by
  have c__law_next := @ok__law_next Pr w K mg base C CB T
  refine T.d__law_line.ok sc__law_line (fun vs H Q E h => len_G Fn1.len h) (fun f cdv A outer s H vs Q E hr h => ⟨_, (pss_cons (ps_set (i := 2) sc__law_line.nd rfl (.inl rfl) pe_str)
      (pss_cons (ps_set (i := 2) sc__law_line.nd rfl (.inl rfl) (pe_op oAddS (pv 2) pe_str))
      (pss_cons (ps_set (i := 3) sc__law_line.nd rfl (.inl rfl) (pe_cal c__law_next (hr.mono (by decide)) pass0 (pa_cons (pv 0) (pa_cons pe_int pa_nil))))
      (pss_cons (ps_set (i := 4) sc__law_line.nd rfl (.inl rfl) (pe_cal c__law_next (hr.mono (by decide)) pass0 (pa_cons (pv 0) (pa_cons pe_int pa_nil))))
      (pss_cons (ps_set (i := 5) sc__law_line.nd rfl (.inl rfl) (pe_op op_add pe_int (pe_cal c__law_next (hr.mono (by decide)) pass0 (pa_cons (pv 0) (pa_cons pe_int pa_nil)))))
      (pss_cons (ps_set (i := 6) sc__law_line.nd rfl (.inl rfl) pe_str)
      (pss_cons (ps_for PassesOwn.never rfl (pi_range1 rfl T.n_range (pa_cons (pv 1) pa_nil)) (pg_name (i := 7) sc__law_line.nd rfl (.inl rfl))
      (pss_cons (ps_set (i := 8) sc__law_line.nd rfl (.inl rfl) (pe_ix ix_str (pv 2) (pe_op op_mod (pe_callTy cInt1 (by rfl) T.n_int bb_int (pa_cons (pe_op op_add (pv 3) (pe_op op_mul (pv 4) (pv 7))) pa_nil)) pe_int) (fun _ _ => rfl)))
      (pss_cons (ps_if (pt_cmpR op_lt (pv 7) pe_int (nomark _)) (pss_one (ps_set (i := 8) sc__law_line.nd rfl (.inl rfl) (pe_ix ix_str (pv 2) (pe_cal c__law_next (hr.mono (by decide)) pass0 (pa_cons (pv 0) (pa_cons pe_int pa_nil))) (fun _ _ => rfl)))) pss_nil)
      (pss_cons (ps_if (pt_cmpR op_eq (pe_op op_mod (pe_callTy cInt1 (by rfl) T.n_int bb_int (pa_cons (pv 7) pa_nil)) (pv 5)) (pe_op op_sub (pv 5) pe_int) (nomark _)) (pss_one (ps_set (i := 8) sc__law_line.nd rfl (.inl rfl) pe_str)) pss_nil)
      (pss_one (ps_set (i := 6) sc__law_line.nd rfl (.inl rfl) (pe_op oAddS (pv 6) (pv 8))))))))
      (pss_one (ps_ret (pv 6)))))))))), body_G h fun ds P hf => ?_⟩)
  obtain ⟨_, rfl, n, rfl, h0, h1, p⟩ := hf
  refine ⟨Nat.le_of_ble_eq_true rfl, ?_⟩
  show WS _ _ [.strm, .dat (.int n), .un, .un, .un, .un, .un, .un, .un] _ _ _ _
  try dsimp only [cxOf]
  have eC : lawC.length = 94 := lawC_len
  have eC2 : lawC.length ≤ 100000 := by omega
  have e1 : (Str.ofString " !\"#$&'()*+,-./0123456789:;<=>?@ABCDEFGHIJKLMNOPQRSTUVWXYZ[\\]^_`").length = 64 := rfl
  have e2 : (Str.ofString "abcdefghijklmnopqrstuvwxyz{|}~").length = 30 := rfl
  walk_at "w"
  rename_i st hst sp hsp g hg
  refine ForInv.mk (fun i τ' => ∃ x k ch, τ' = [.strm, .dat (.int n), .dat (.str lawC), .dat (.int st), .dat (.int sp), .dat (.int (2 + g)), .dat (.str x), k, ch] ∧ PlS x ∧ x.length = i) ⟨_, _, _, rfl, (fun _ h => nomatch h), rfl⟩ (fun i d τ' hd hI => ?_) (fun τ' hI => ?_)
  · obtain ⟨x, k, ch, rfl, hx, hxl⟩ := hI
    obtain ⟨hi, rfl⟩ := rgD_get hd
    have cont : ∀ c : Nat, plCh c = true → ∀ k' : Sl, WS ⟨K, C, noG⟩ (tSeq (tIfS (tTest (tOp rEq (tOp (rI (fun _ j => 0 < j) fun i j => .int (i % j)) (tCB rInt1 (tCons (tVar 7) tNil)) (tVar 5)) (tOp (rI0 fun i j => .int (i - j)) (tVar 5) (tC (.int 1))))) (tAsg (tC (.str " ")) (gName 8)) tNext) (tAsg (tOp rAddS (tVar 6) (tVar 8)) (gName 6)))
        [.strm, .dat (.int n), .dat (.str lawC), .dat (.int st), .dat (.int sp), .dat (.int (2 + g)), .dat (.str x), .dat (.int (0 + (i : Nat))), .dat (.str ⟨#[c]⟩)] P (fun τ' => ∃ x k ch, τ' = [.strm, .dat (.int n), .dat (.str lawC), .dat (.int st), .dat (.int sp), .dat (.int (2 + g)), .dat (.str x), k, ch] ∧ PlS x ∧ x.length = i + 1) (fun τ' => WS ⟨K, C, noG⟩ (tRet (tVar 6)) τ' P (fun _ => P .non) NoS NoS) (fun τ' => ∃ x k ch, τ' = [.strm, .dat (.int n), .dat (.str lawC), .dat (.int st), .dat (.int sp), .dat (.int (2 + g)), .dat (.str x), k, ch] ∧ PlS x ∧ x.length = i + 1) := fun c hc k' => by
      have eb : (Str.ofString " ").length = 1 := rfl
      have q1 : PlS (x ++ Str.ofString " ") := pls_app (c := 32) hx (by decide)
      have q2 := pls_app hx hc
      walk_at "w"
      refine if_2 (fun _ => ?_) (fun _ => ?_)
      · walk_at "w"
        rw [slen_app, hxl]; rfl
      · walk_at "w"
        rw [slen_app, hxl]; rfl
    walk_at "w"
    refine od_ixS_all eC2 (Int.emod_nonneg _ (by omega)) (by rw [eC]; exact Int.emod_lt_of_pos _ (by omega)) (fun c hc => ?_)
    refine wg_name (Nat.le_of_ble_eq_true rfl) ?_
    refine ws_seq ?_
    walk_at "w"
    refine if_2 (fun _ => ?_) (fun _ => ?_)
    · walk_at "w"
      refine od_ixS_all eC2 (by omega) (by rw [eC]; omega) (fun c' hc' => ?_)
      refine wg_name (Nat.le_of_ble_eq_true rfl) ?_
      exact cont c' (lawC_ch hc') .un
    · refine ws_next ?_
      exact cont c (lawC_ch hc) .un
  · obtain ⟨x, k, ch, rfl, hx, hxl⟩ := hI
    rw [rgD_len] at hxl
    walk_at "w"
    exact p _ ⟨by omega, hx⟩
theorem tt_of {x : Str} (h : PlS x) (h1 : x.length ≤ 60) : TtOk x := by
  show (decide (x.length ≤ 60) && plainL (TL.tl x)) = true
  rw [decide_eq_true h1]
  exact List.all_eq_true.mpr h
theorem ok__law_title (T : Txt w K mg C CB) : CallOk Pr w K mg base CX0 3 "_law_title" ["_law_stream_here"] (spG K C (fTitle)) := by
  have c__law_line := @ok__law_line Pr w K mg base C CB T
  have c__law_next := @ok__law_next Pr w K mg base C CB T
  refine T.d__law_title.ok sc__law_title (fun vs H Q E h => len_G Fn0.len h) (fun f cdv A outer s H vs Q E hr h => ⟨_, (pss_cons (ps_set (i := 1) sc__law_title.nd rfl (.inl rfl) (pe_ix ix_tup (pe_tup (pa_cons pe_int (pa_cons pe_int (pa_cons (pe_cal c__law_next (hr.mono (by decide)) pass0 (pa_cons (pv 0) (pa_cons pe_int pa_nil))) (pa_cons (pe_cal c__law_next (hr.mono (by decide)) pass0 (pa_cons (pv 0) (pa_cons pe_int pa_nil))) pa_nil))))) (pe_cal c__law_next (hr.mono (by decide)) pass0 (pa_cons (pv 0) (pa_cons pe_int pa_nil))) (fun _ _ => rfl)))
      (pss_one (ps_ret (pe_cal c__law_line (hr.mono (by decide)) pass0 (pa_cons (pv 0) (pa_cons (pv 1) pa_nil)))))), body_G h fun ds P hf => ?_⟩)
  obtain ⟨rfl, p⟩ := hf
  refine ⟨Nat.le_of_ble_eq_true rfl, ?_⟩
  show WS _ _ [.strm, .un] _ _ _ _
  try dsimp only [cxOf]
  walk_at "w"
  rename_i a ha b hb c hc
  refine od_ixT_all (by omega) (by simp only [List.length_cons, List.length_nil]; omega) (fun d hd => ?_)
  have hd := List.mem_of_getElem? hd
  obtain ⟨s, rfl, hs⟩ : ∃ s : Int, d = .int s ∧ 0 ≤ s ∧ s ≤ 60 := by
    simp only [List.mem_cons, List.not_mem_nil, or_false] at hd
    rcases hd with rfl | rfl | rfl | rfl
    · exact ⟨_, rfl, by omega⟩
    · exact ⟨_, rfl, by omega⟩
    · exact ⟨_, rfl, by omega⟩
    · exact ⟨_, rfl, by omega⟩
  walk_at "w"
  rename_i x hx
  exact p x (tt_of hx.2 (by omega))
/-- plain signs and line ends -/
abbrev TxS (x : Str) : Prop := ∀ c ∈ TL.tl x, c = 10 ∨ plCh c = true
theorem txs_app {x : Str} {c : Nat} (hx : TxS x) (h : c = 10 ∨ plCh c = true) : TxS (x ++ ⟨#[c]⟩) := fun d hd => by
  rw [TL.tl_append] at hd
  rcases List.mem_append.mp hd with z | z
  · exact hx d z
  · rw [List.mem_singleton.mp z]; exact h
theorem tx_of {x : Str} (h : TxS x) (h0 : 1 ≤ x.length) (h1 : x.length ≤ 400) : TxOk x := by
  show (decide (1 ≤ x.length) && (decide (x.length ≤ 400) && plainL ((TL.tl x).filter fun c => !decide (c = 10)))) = true
  rw [decide_eq_true h0, decide_eq_true h1]
  refine List.all_eq_true.mpr fun c hc => ?_
  obtain ⟨hm, hn⟩ := List.mem_filter.mp hc
  rcases h c hm with z | z
  · simp [z] at hn
  · exact z
theorem ok__law_text (T : Txt w K mg C CB) : CallOk Pr w K mg base CX0 3 "_law_text" ["_law_stream_here"] (spG K C (fText)) := by
  have c__law_line := @ok__law_line Pr w K mg base C CB T
  have c__law_next := @ok__law_next Pr w K mg base C CB T
  refine T.d__law_text.ok sc__law_text (fun vs H Q E h => len_G Fn0.len h) (fun f cdv A outer s H vs Q E hr h => ⟨_, (pss_cons (ps_set (i := 1) sc__law_text.nd rfl (.inl rfl) (pe_ix ix_tup (pe_tup (pa_cons pe_int (pa_cons (pe_op op_sub pe_int (pe_cal c__law_next (hr.mono (by decide)) pass0 (pa_cons (pv 0) (pa_cons pe_int pa_nil)))) (pa_cons (pe_op op_add pe_int (pe_cal c__law_next (hr.mono (by decide)) pass0 (pa_cons (pv 0) (pa_cons pe_int pa_nil)))) (pa_cons (pe_op op_add pe_int (pe_cal c__law_next (hr.mono (by decide)) pass0 (pa_cons (pv 0) (pa_cons pe_int pa_nil)))) pa_nil))))) (pe_cal c__law_next (hr.mono (by decide)) pass0 (pa_cons (pv 0) (pa_cons pe_int pa_nil))) (fun _ _ => rfl)))
      (pss_cons (ps_set (i := 2) sc__law_text.nd rfl (.inl rfl) (pe_cal c__law_line (hr.mono (by decide)) pass0 (pa_cons (pv 0) (pa_cons (pv 1) pa_nil))))
      (pss_cons (ps_set (i := 3) sc__law_text.nd rfl (.inl rfl) (pe_ix ix_tup (pe_tup (pa_cons pe_int (pa_cons pe_int (pa_cons (pe_op op_add pe_int (pe_cal c__law_next (hr.mono (by decide)) pass0 (pa_cons (pv 0) (pa_cons pe_int pa_nil)))) (pa_cons pe_int (pa_cons pe_int (pa_cons pe_int pa_nil))))))) (pe_cal c__law_next (hr.mono (by decide)) pass0 (pa_cons (pv 0) (pa_cons pe_int pa_nil))) (fun _ _ => rfl)))
      (pss_cons (ps_set (i := 4) sc__law_text.nd rfl (.inl rfl) (pe_cal c__law_next (hr.mono (by decide)) pass0 (pa_cons (pv 0) (pa_cons pe_int pa_nil))))
      (pss_cons (ps_set (i := 5) sc__law_text.nd rfl (.inl rfl) pe_str)
      (pss_cons (ps_for PassesOwn.never rfl (pi_range1 rfl T.n_range (pa_cons (pv 1) pa_nil)) (pg_name (i := 6) sc__law_text.nd rfl (.inl rfl))
      (pss_one (ps_if (pt_cmpR op_eq (pe_op op_mod (pe_callTy cInt1 (by rfl) T.n_int bb_int (pa_cons (pe_op op_add (pv 6) (pv 4)) pa_nil)) (pv 3)) pe_int (nomark _)) (pss_one (ps_set (i := 5) sc__law_text.nd rfl (.inl rfl) (pe_op oAddS (pv 5) pe_str))) (pss_one (ps_set (i := 5) sc__law_text.nd rfl (.inl rfl) (pe_op oAddS (pv 5) (pe_ix ix_str (pv 2) (pv 6) (fun _ _ => rfl))))))))
      (pss_one (ps_ret (pv 5))))))))), body_G h fun ds P hf => ?_⟩)
  obtain ⟨rfl, p⟩ := hf
  refine ⟨Nat.le_of_ble_eq_true rfl, ?_⟩
  show WS _ _ [.strm, .un, .un, .un, .un, .un, .un] _ _ _ _
  try dsimp only [cxOf]
  walk_at "w"
  refine od_ixT_all (by omega) (by simp only [List.length_cons, List.length_nil]; omega) (fun d hd => ?_)
  have hd := List.mem_of_getElem? hd
  obtain ⟨s, rfl, hs⟩ : ∃ s : Int, d = .int s ∧ 1 ≤ s ∧ s ≤ 400 := by
    simp only [List.mem_cons, List.not_mem_nil, or_false] at hd
    rcases hd with rfl | rfl | rfl | rfl
    · exact ⟨_, rfl, by omega⟩
    · exact ⟨_, rfl, by omega⟩
    · exact ⟨_, rfl, by omega⟩
    · exact ⟨_, rfl, by omega⟩
  walk_at "w"
  rename_i x hx _ _ _ _
  refine od_ixT_all (by omega) (by simp only [List.length_cons, List.length_nil]; omega) (fun d hd => ?_)
  have hd := List.mem_of_getElem? hd
  obtain ⟨g, rfl, hg⟩ : ∃ g : Int, d = .int g ∧ 0 < g := by
    simp only [List.mem_cons, List.not_mem_nil, or_false] at hd
    rcases hd with rfl | rfl | rfl | rfl | rfl | rfl
    · exact ⟨_, rfl, by omega⟩
    · exact ⟨_, rfl, by omega⟩
    · exact ⟨_, rfl, by omega⟩
    · exact ⟨_, rfl, by omega⟩
    · exact ⟨_, rfl, by omega⟩
    · exact ⟨_, rfl, by omega⟩
  walk_at "w"
  rename_i sh hsh
  have hx1 : x.length ≤ 100000 := by omega
  refine ForInv.mk (fun i τ' => ∃ y k, τ' = [.strm, .dat (.int s), .dat (.str x), .dat (.int g), .dat (.int sh), .dat (.str y), k] ∧ TxS y ∧ y.length = i) ⟨_, _, rfl, (fun _ h => nomatch h), rfl⟩ (fun i d τ' hd hI => ?_) (fun τ' hI => ?_)
  · obtain ⟨y, k, rfl, hy, hyl⟩ := hI
    obtain ⟨hi, rfl⟩ := rgD_get hd
    have eb : (Str.ofString "\n").length = 1 := rfl
    have q1 : TxS (y ++ Str.ofString "\n") := txs_app (c := 10) hy (.inl rfl)
    walk_at "w"
    refine if_2 (fun _ => ?_) (fun _ => ?_)
    · walk_at "w"
      rw [slen_app, hyl]; rfl
    · walk_at "w"
      refine od_ixS_all hx1 (by omega) (by omega) (fun c hc => ?_)
      have q2 := txs_app hy (.inr (hx.2 c (List.mem_of_getElem? hc)))
      walk_at "w"
      rw [slen_app, hyl]; rfl
  · obtain ⟨y, k, rfl, hy, hyl⟩ := hI
    rw [rgD_len] at hyl
    walk_at "w"
    exact p _ (tx_of hy (by omega) (by omega))
end
end
section
open PySem PySem.Spec PyProof.Rows L2
open Evl (Ex ex_rd ex_l ex_t)
open CwR
set_option autoImplicit false
open Bod (NmOk NuOk TtOk TxOk)
theorem ascL_cons {a : Str} {l : List Str} (h : ascL l = true) (h2 : ∀ b ∈ l.head?, ltS a b = true) : ascL (a :: l) = true := by
  cases l with
  | nil => rfl
  | cons b r =>
    show (ltS a b && ascL (b :: r)) = true
    rw [h2 b rfl, h]; rfl
theorem ascL_pw : ∀ {l : List Str}, l.Pairwise (fun a b => ltS a b = true) → ascL l = true
  | [], _ => rfl
  | a :: r, h => by
    rw [List.pairwise_cons] at h
    refine ascL_cons (ascL_pw h.2) fun b hb => h.1 b ?_
    cases r with
    | nil => cases hb
    | cons c q => cases hb; exact List.mem_cons_self
theorem ltCps_tri : ∀ a b : List Nat, ltCps a b = false → ltCps b a = false → a = b
  | [], [], _, _ => rfl
  | [], _ :: _, h, _ => by cases h
  | _ :: _, [], _, h => by cases h
  | a :: r, b :: t, h1, h2 => by
    simp only [ltCps, Bool.or_eq_false_iff, Bool.and_eq_false_iff, decide_eq_false_iff_not] at h1 h2
    have e : a = b := by omega
    subst e
    simp at h1 h2
    rw [ltCps_tri r t h1 h2]
theorem ltS_cps (a b : Str) : ltS a b = ltCps (TL.tl a) (TL.tl b) := (ltCps_eq _ _).symm
theorem ascL_rising : ∀ (l : List Str) (x : Str), risingS x l = true → (x :: l).Nodup → ascL (x :: l) = true
  | [], _, _, _ => rfl
  | y :: r, x, h, hn => by
    have h : (!ltCps (TL.tl y) (TL.tl x) && risingS y r) = true := h
    rw [Bool.and_eq_true, Bool.not_eq_true'] at h
    rw [List.nodup_cons] at hn
    have hxy : x ≠ y := fun z => hn.1 (by rw [z]; exact List.mem_cons_self)
    show (ltS x y && ascL (y :: r)) = true
    rw [ascL_rising r y h.2 hn.2, Bool.and_true, ltS_cps]
    cases e : ltCps (TL.tl x) (TL.tl y) with
    | true => rfl
    | false => exact absurd (TL.ext_tl (ltCps_tri _ _ e h.1)) hxy
theorem ascL_sorted {l : List Str} (h : sortedS l = true) (hn : l.Nodup) : ascL l = true := by
  cases l with
  | nil => rfl
  | cons x r => exact ascL_rising r x h hn
theorem strs_all (xs : List Str) : (xs.map D.str).all D.isStr = true := by
  rw [List.all_eq_true]
  intro d hd
  obtain ⟨x, _, rfl⟩ := List.mem_map.mp hd
  rfl
theorem any_eqS (xs : List Str) (x : Str) : (xs.map D.str).any (D.eqS x) = decide (x ∈ xs) := by
  rw [List.any_map, Bool.eq_iff_iff, List.any_eq_true, decide_eq_true_eq]
  constructor
  · rintro ⟨y, hy, e⟩
    have e : decide (y = x) = true := e
    rw [← of_decide_eq_true e]; exact hy
  · intro h
    exact ⟨x, h, by show decide (x = x) = true; simp⟩
section
variable {Pr : Program} {w : World} {K : PySem.W.Frag} {mg : Str → Option Value} {base : Heap} {C CB : Addr}
abbrev GoodNs (n : Int) (xs : List Str) : Prop := (xs.length : Int) ≤ n ∧ (∀ x ∈ xs, NmOk x) ∧ ascL xs = true
abbrev fNames : Fn := Fn1 fun d P => ∃ n : Int, d = .int n ∧ 0 ≤ n ∧ n ≤ 15 ∧ AllLst (GoodNs n) P
abbrev w16 : Str := "abcdefghijklmnop"
def pD : D → D
  | .str c => .str (("p" : Str) ++ c)
  | d => d
theorem map_pD (z : Str) : (chD z).map pD = ((TL.tl z).map fun c => (("p" : Str) ++ ⟨#[c]⟩ : Str)).map .str := by
  unfold chD
  rw [List.map_map, List.map_map]; rfl
theorem cut16 {s r n : Int} (h0 : 0 ≤ s) (h1 : 0 ≤ r) (h2 : r ≤ n) : GoodNs n ((TL.tl (cutS w16 (some s) (some (s + n - r)))).map fun c => (("p" : Str) ++ ⟨#[c]⟩ : Str)) := by
  obtain ⟨s', rfl⟩ := Int.eq_ofNat_of_zero_le h0
  obtain ⟨t', ht⟩ := Int.eq_ofNat_of_zero_le (a := (s' : Int) + n - r) (by omega)
  rw [ht, show TL.tl (cutS w16 (some (s' : Nat)) (some (t' : Nat))) = ((TL.tl w16).drop (HT.sIx w16.length 0 (some (s' : Nat)))).take (HT.sIx w16.length w16.length (some (t' : Nat)) - HT.sIx w16.length 0 (some (s' : Nat))) from rfl, HT.sIx_nat, HT.sIx_nat]
  have sub : ((((TL.tl w16).drop (min s' w16.length)).take (min t' w16.length - min s' w16.length)).map fun c => (("p" : Str) ++ ⟨#[c]⟩ : Str)).Sublist ((TL.tl w16).map fun c => (("p" : Str) ++ ⟨#[c]⟩ : Str)) :=
    ((List.take_sublist _ _).trans (List.drop_sublist _ _)).map _
  refine ⟨?_, fun x hx => ?_, ascL_pw (List.Pairwise.sublist sub ?_)⟩
  · rw [List.length_map, List.length_take]
    omega
  · have : ∀ x ∈ (TL.tl w16).map fun c => (("p" : Str) ++ ⟨#[c]⟩ : Str), nameL (TL.tl x) = true := by decide +kernel
    exact this x (sub.subset hx)
  · decide +kernel
theorem ok__law_names (T : Txt w K mg C CB) : CallOk Pr w K mg base CX0 3 "_law_names" ["_law_stream_here", "_law_most"] (spG K C (fNames)) := by
  have c__law_name := @ok__law_name Pr w K mg base C CB T
  have c__law_next := @ok__law_next Pr w K mg base C CB T
  refine T.d__law_names.ok sc__law_names (fun vs H Q E h => len_G Fn1.len h) (fun f cdv A outer s H vs Q E hr h => ⟨_, (pss_cons (ps_if (PW.pt (pw_and (pt_cmpR op_gt (pv 1) pe_int (nomark _)) (pw_and1 (pt_cmpR op_eq (pe_cal c__law_next (hr.mono (by decide)) pass0 (pa_cons (pv 0) (pa_cons pe_int pa_nil))) pe_int (nomark _))))) (pss_cons (ps_set (i := 2) sc__law_names.nd rfl (.inl rfl) (pe_cal c__law_next (hr.mono (by decide)) pass0 (pa_cons (pv 0) (pa_cons pe_int pa_nil))))
      (pss_one (ps_ret (pe_lc (own := [("_law_char", 6)]) (g := gName 6) (tt := tYes) rfl sc__law_names.nd (pi_str (pe_slice sl_str pe_str (po_some (pv 2)) (po_some (pe_op op_sub (pe_op op_add (pv 2) (pv 1)) (pe_cal c__law_next (hr.mono (by decide)) pass0 (pa_cons (pv 0) (pa_cons pe_int pa_nil))))))) (blkOk_by (own := [("_law_char", 6)]) (N := N__law_names) (sc := defScope s__law_names) (by decide +kernel)) (fun _ _ _ _ _ => pg_name (i := 6) sc__law_names.nd rfl (Or.inl rfl)) (fun _ _ _ _ _ => pts_nil) (fun _ _ _ _ _ => (pe_op oAddS pe_str (pv 6))))))) pss_nil)
      (pss_cons (ps_set (i := 3) sc__law_names.nd rfl (.inl rfl) (pe_lst pa_nil))
      (pss_cons (ps_for PassesOwn.never rfl (pi_range1 rfl T.n_range (pa_cons (pe_cal c__law_next (hr.mono (by decide)) pass0 (pa_cons (pv 0) (pa_cons (pe_op op_add (pv 1) pe_int) pa_nil))) pa_nil)) (pg_name (i := 4) sc__law_names.nd rfl (.inl rfl))
      (pss_cons (ps_set (i := 5) sc__law_names.nd rfl (.inl rfl) (pe_cal c__law_name (hr.mono (by decide)) pass0 (pa_cons (pv 0) pa_nil)))
      (pss_one (ps_if (pt_cmpR op_notIn_seq (pv 5) (pv 3) (by rfl)) (pss_one (ps_expr (pe_bm PySem.F.plainAttrs_list PySem.F.slot_list_append PySem.F.type_list_append mt_append (pv 3) (pa_cons (pv 5) pa_nil)))) pss_nil))))
      (pss_one (ps_ret (pe_callB cSortS (by rfl) T.n_sorted bb_sorted (pa_cons (pv 3) pa_nil))))))), body_G h fun ds P hf => ?_⟩)
  obtain ⟨_, rfl, n, rfl, h0, h1, p⟩ := hf
  refine ⟨Nat.le_of_ble_eq_true rfl, ?_⟩
  show WS _ _ [.strm, .dat (.int n), .un, .un, .un, .un, .un] _ _ _ _
  try dsimp only [cxOf]
  have e16 : (Str.ofString "abcdefghijklmnop").length = 16 := rfl
  have ep : (Str.ofString "p").length = 1 := rfl
  have eB : ∀ τ : List Sl, τ = [.strm, .dat (.int n), .un, .un, .un, .un, .un] → WS ⟨K, C, noG⟩ (tSeq (tAsg (tLst tNil) (gName 3)) (tSeq (tFor (iRng1 (tCons (tCall (spG K C fNext) [] E0 (tCons (tVar 0) (tCons (tOp (rI0 fun i j => .int (i + j)) (tVar 1) (tC (.int 1))) tNil))) tNil)) (gName 4)
      (tSeq (tAsg (tCall (spG K C fName) [] E0 (tCons (tVar 0) tNil)) (gName 5)) (tIfS (tTest (tOp (rIn K true) (tVar 5) (tVar 3))) (tDrop (tBM K "list" rAppend (tVar 3) (tCons (tVar 5) tNil))) tNext)))
      (tRet (tCB (rSortedS K) (tCons (tVar 3) tNil))))) τ P (fun _ => P .non) NoS NoS := fun τ e => by
    subst e
    walk_at "w"
    rename_i m hm
    refine ForInv.mk (fun i τ' => ∃ xs k nm, τ' = [.strm, .dat (.int n), .un, .own xs, k, nm, .un] ∧ (∀ x ∈ xs, NmOk x) ∧ xs.Nodup ∧ xs.length ≤ i) ⟨[], _, _, rfl, (fun _ h => nomatch h), List.nodup_nil, Nat.le_refl _⟩ (fun i d τ' hd hI => ?_) (fun τ' hI => ?_)
    · obtain ⟨xs, k, nm, rfl, hx, hnd, hl⟩ := hI
      obtain ⟨hi, rfl⟩ := rgD_get hd
      have hxl : xs.length < 100000 := by omega
      walk_at "w"
      rename_i x hxn
      refine od_niL (strs_all xs) ?_
      rw [any_eqS]
      by_cases c : x ∈ xs
      · have e : (!decide (x ∈ xs)) = false := by simp [c]
        walk_at "w"
        omega
      · have e : (!decide (x ∈ xs)) = true := by simp [c]
        walk_at "w"
        refine ⟨fun y hy => ?_, ?_, ?_⟩
        · rcases List.mem_append.mp hy with z | z
          · exact hx y z
          · rw [List.mem_singleton.mp z]; exact hxn
        · rw [List.nodup_append]
          exact ⟨hnd, by simp, fun a ha b hb => by rw [List.mem_singleton.mp hb]; exact fun z => c (by rw [← z]; exact ha)⟩
        · rw [List.length_append]; show xs.length + 1 ≤ i + 1; omega
    · obtain ⟨xs, k, nm, rfl, hx, hnd, hl⟩ := hI
      rw [rgD_len] at hl
      walk_at "w"
      refine cd_sortS (by omega) fun ys hp hs => ?_
      refine p ys ⟨?_, fun x hx' => hx x (hp.subset hx'), ascL_sorted hs (hp.nodup_iff.mpr hnd)⟩
      rw [hp.length_eq]; omega
  walk_at "w"
  refine if_2 (fun h3 => ?_) (fun h3 => ?_)
  · have h3 := of_decide_eq_true h3
    walk_at "w"
    refine if_2 (fun h4 => ?_) (fun h4 => ?_)
    · walk_at "w"
      rename_i s hs r hr
      refine LcInv.map pD ?la ?lb (fun i d hd => ?_) ?_
      case la => exact Nat.le_of_ble_eq_true rfl
      case lb =>
        rw [chD_len]
        have := cutS_length (Str.ofString "abcdefghijklmnop") (some s) (some (s + n - r))
        omega
      · obtain ⟨c, hc, rfl⟩ := chD_get hd
        walk_at "w"
        rfl
      · rw [map_pD]
        exact p _ (cut16 (by omega) (by omega) (by omega))
    · exact ws_next (eB _ rfl)
  · walk_at "w1"
    exact ws_next (eB _ rfl)
def AllBod (a : Str) (P : D → Prop) : Prop := ∀ b : Bod, b.ok → (∀ t ms, b = .found t ms → a ∉ ms) → P b.d
abbrev fBody : Fn := Fn1 fun d P => ∃ a, d = .str a ∧ AllBod a P
theorem filter_strs (xs : List Str) (f : Str → Bool) (g : D → Bool) (h : ∀ x, g (.str x) = f x) : (xs.map D.str).filter g = (xs.filter f).map .str := by
  rw [List.filter_map]
  congr 1
  exact List.filter_congr fun x _ => h x
theorem ascL_sub {a b : List Str} (h : a.Sublist b) (hb : b.Pairwise (fun a b => ltS a b = true)) : ascL a = true := ascL_pw (hb.sublist h)
theorem ltCps_trans : ∀ a b c : List Nat, ltCps a b = true → ltCps b c = true → ltCps a c = true
  | [], [], _, h, _ => by cases h
  | [], _ :: _, [], _, h => by cases h
  | [], _ :: _, _ :: _, _, _ => rfl
  | _ :: _, [], _, h, _ => by cases h
  | _ :: _, _ :: _, [], _, h => by cases h
  | a :: r, b :: t, c :: u, h1, h2 => by
    simp only [ltCps, Bool.or_eq_true, Bool.and_eq_true, decide_eq_true_eq, beq_iff_eq] at h1 h2 ⊢
    rcases h1 with h1 | ⟨e1, h1⟩
    · rcases h2 with h2 | ⟨e2, h2⟩
      · left; omega
      · left; omega
    · rcases h2 with h2 | ⟨e2, h2⟩
      · left; omega
      · right; exact ⟨by omega, ltCps_trans r t u h1 h2⟩
theorem ascL_pairwise : ∀ {l : List Str}, ascL l = true → l.Pairwise (fun a b => ltS a b = true)
  | [], _ => List.Pairwise.nil
  | [_], _ => List.pairwise_singleton _ _
  | a :: b :: r, h => by
    have h : (ltS a b && ascL (b :: r)) = true := h
    rw [Bool.and_eq_true] at h
    have ih := ascL_pairwise h.2
    refine List.pairwise_cons.mpr ⟨fun x hx => ?_, ih⟩
    rcases List.mem_cons.mp hx with z | z
    · rw [z]; exact h.1
    · have := (List.pairwise_cons.mp ih).1 x z
      rw [ltS_cps] at this ⊢
      have h1 := h.1
      rw [ltS_cps] at h1
      exact ltCps_trans _ _ _ h1 this
theorem ok__law_body (T : Txt w K mg C CB) : CallOk Pr w K mg base CX0 4 "_law_body" ["_law_stream_here", "_law_author"] (spG K C (fBody)) := by
  have c__law_name := @ok__law_name Pr w K mg base C CB T
  have c__law_names := @ok__law_names Pr w K mg base C CB T
  have c__law_next := @ok__law_next Pr w K mg base C CB T
  have c__law_number := @ok__law_number Pr w K mg base C CB T
  have c__law_text := @ok__law_text Pr w K mg base C CB T
  have c__law_title := @ok__law_title Pr w K mg base C CB T
  refine T.d__law_body.ok sc__law_body (fun vs H Q E h => len_G Fn1.len h) (fun f cdv A outer s H vs Q E hr h => ⟨_, (pss_cons (ps_set (i := 2) sc__law_body.nd rfl (.inl rfl) (pe_cal c__law_next (hr.mono (by decide)) pass0 (pa_cons (pv 0) (pa_cons pe_int pa_nil))))
      (pss_cons (ps_if (pt_cmpR op_eq (pv 2) pe_int (nomark _)) (pss_cons (ps_set (i := 3) sc__law_body.nd rfl (.inl rfl) (pe_cal c__law_title (hr.mono (by decide)) pass0 (pa_cons (pv 0) pa_nil)))
      (pss_one (ps_ret (pe_tup (pa_cons pe_str (pa_cons (pv 3) (pa_cons (pe_callTy cTupO (by rfl) T.n_tuple bb_tuple (pa_cons (pe_lc (own := [("_law_name_here", 4)]) (g := gName 4) rfl sc__law_body.nd (pi_list (pe_cal c__law_names (hr.mono (by decide)) pass0 (pa_cons (pv 0) (pa_cons pe_int pa_nil)))) (blkOk_by (own := [("_law_name_here", 4)]) (N := N__law_body) (sc := defScope s__law_body) (by decide +kernel)) (fun _ _ _ _ _ => pg_name (i := 4) sc__law_body.nd rfl (Or.inl rfl)) (fun _ _ _ _ _ => pts_one (pt_cmpR op_ne (pv 4) (pv 1) (nomark _))) (fun _ _ _ _ _ => (pv 4))) pa_nil)) pa_nil))))))) pss_nil)
      (pss_cons (ps_if (pt_cmpR op_eq (pv 2) pe_int (nomark _)) (pss_one (ps_ret (pe_tup (pa_cons pe_str (pa_cons (pe_cal c__law_text (hr.mono (by decide)) pass0 (pa_cons (pv 0) pa_nil)) pa_nil))))) pss_nil)
      (pss_cons (ps_if (pt_cmpR op_eq (pv 2) pe_int (nomark _)) (pss_one (ps_ret (pe_tup (pa_cons pe_str (pa_cons (pe_cal c__law_title (hr.mono (by decide)) pass0 (pa_cons (pv 0) pa_nil)) pa_nil))))) pss_nil)
      (pss_cons (ps_if (pt_cmpR op_eq (pv 2) pe_int (nomark _)) (pss_one (ps_ret (pe_tup (pa_cons pe_str pa_nil)))) pss_nil)
      (pss_cons (ps_set (i := 4) sc__law_body.nd rfl (.inl rfl) (pe_cal c__law_name (hr.mono (by decide)) pass0 (pa_cons (pv 0) pa_nil)))
      (pss_cons (ps_if (pt_cmpR op_gt (pv 2) pe_int (nomark _)) (pss_one (ps_ret (pe_tup (pa_cons (pe_ix ix_tup (pe_tup (pa_cons pe_str (pa_cons pe_str (pa_cons pe_str pa_nil)))) (pe_op op_sub (pv 2) pe_int) (fun _ _ => rfl)) (pa_cons (pv 4) pa_nil))))) pss_nil)
      (pss_cons (ps_set (i := 5) sc__law_body.nd rfl (.inl rfl) (pe_tup (pa_cons (pe_cal c__law_name (hr.mono (by decide)) pass0 (pa_cons (pv 0) pa_nil)) (pa_cons (pe_cal c__law_number (hr.mono (by decide)) pass0 (pa_cons (pv 0) pa_nil)) pa_nil))))
      (pss_cons (ps_if (pt_cmpR op_eq (pv 2) pe_int (nomark _)) (pss_one (ps_ret (pe_tup (pa_cons pe_str (pa_cons (pv 5) pa_nil))))) pss_nil)
      (pss_cons (ps_if (pt_cmpR op_eq (pv 2) pe_int (nomark _)) (pss_one (ps_ret (pe_tup (pa_cons pe_str (pa_cons (pv 5) (pa_cons (pv 4) pa_nil)))))) pss_nil)
      (pss_one (ps_ret (pe_tup (pa_cons (pe_ix ix_tup (pe_tup (pa_cons pe_str (pa_cons pe_str pa_nil))) (pe_op op_sub (pv 2) pe_int) (fun _ _ => rfl)) (pa_cons (pv 5) (pa_cons (pe_cal c__law_text (hr.mono (by decide)) pass0 (pa_cons (pv 0) pa_nil)) pa_nil)))))))))))))))), body_G h fun ds P hf => ?_⟩)
  obtain ⟨_, rfl, a, rfl, p⟩ := hf
  refine ⟨Nat.le_of_ble_eq_true rfl, ?_⟩
  show WS _ _ [.strm, .dat (.str a), .un, .un, .un, .un] _ _ _ _
  try dsimp only [cxOf]
  walk_at "w"
  rename_i k hk
  refine if_2 (fun h1 => ?_) (fun h1 => ?_)
  · walk_at "w"
    rename_i t ht xs hx
    refine LcInv.filter (fun d => !D.eqS a d) ?la ?lb (fun i d hd => ?_) ?_
    case la => exact Nat.le_of_ble_eq_true rfl
    case lb => rw [List.length_map]; have := hx.1; omega
    · obtain ⟨x, hx', rfl⟩ := List.mem_map.mp (List.mem_of_getElem? hd)
      walk_at "w"
      rfl
    · rw [filter_strs xs (fun x => !decide (x = a)) _ (fun x => rfl)]
      walk_at "w"
      refine p (.found t (xs.filter fun x => !decide (x = a))) ⟨ht, ?_, fun m hm => hx.2.1 m (List.mem_filter.mp hm).1, ascL_sub List.filter_sublist (ascL_pairwise hx.2.2)⟩ (fun t' ms' e => ?_)
      · have := List.length_filter_le (fun x => !decide (x = a)) xs
        have := hx.1
        omega
      · cases e
        intro hm
        have := (List.mem_filter.mp hm).2
        simp at this
  · walk_at "w"
    refine if_2 (fun h2 => ?_) (fun h2 => ?_)
    · walk_at "w"
      rename_i t ht
      exact p (.say t) ht (fun _ _ e => nomatch e)
    · walk_at "w"
      refine if_2 (fun h3 => ?_) (fun h3 => ?_)
      · walk_at "w"
        rename_i t ht
        exact p (.title t) ht (fun _ _ e => nomatch e)
      · walk_at "w"
        refine if_2 (fun h4 => ?_) (fun h4 => ?_)
        · walk_at "w"
          exact p .seen trivial (fun _ _ e => nomatch e)
        · simp only [decide_eq_false_iff_not] at h1 h2 h3 h4
          walk_at "w"
          rename_i x hx
          refine if_2 (fun h5 => ?_) (fun h5 => ?_)
          · have h5 := of_decide_eq_true h5
            walk_at "w"
            refine od_ixT_all (by omega) (by simp only [List.length_cons, List.length_nil]; omega) (fun d hd => ?_)
            have hd := List.mem_of_getElem? hd
            simp only [List.mem_cons, List.not_mem_nil, or_false] at hd
            rcases hd with rfl | rfl | rfl
            · walk_at "w"
              exact p (.add x) hx (fun _ _ e => nomatch e)
            · walk_at "w"
              exact p (.cut x) hx (fun _ _ e => nomatch e)
            · walk_at "w"
              exact p (.hand x) hx (fun _ _ e => nomatch e)
          · simp only [decide_eq_false_iff_not] at h5
            walk_at "w"
            rename_i y hy n hn
            refine if_2 (fun h6 => ?_) (fun h6 => ?_)
            · walk_at "w"
              exact p (.recall y n) ⟨hy, hn⟩ (fun _ _ e => nomatch e)
            · walk_at "w"
              refine if_2 (fun h7 => ?_) (fun h7 => ?_)
              · walk_at "w"
                exact p (.mark y n x) ⟨⟨hy, hn⟩, hx⟩ (fun _ _ e => nomatch e)
              · simp only [decide_eq_false_iff_not] at h6 h7
                walk_at "w"
                refine od_ixT_all (by omega) (by simp only [List.length_cons, List.length_nil]; omega) (fun d hd => ?_)
                have hd := List.mem_of_getElem? hd
                simp only [List.mem_cons, List.not_mem_nil, or_false] at hd
                rcases hd with rfl | rfl
                · walk_at "w"
                  rename_i t ht
                  exact p (.reply y n t) ⟨⟨hy, hn⟩, ht⟩ (fun _ _ e => nomatch e)
                · walk_at "w"
                  rename_i t ht
                  exact p (.edit y n t) ⟨⟨hy, hn⟩, ht⟩ (fun _ _ e => nomatch e)
end
end
section
open PySem PySem.Spec PyProof.Rows L2
open Evl (Ex ex_rd ex_l ex_t)
open CwR
set_option autoImplicit false
open Bod (NmOk NuOk TtOk TxOk)
theorem q_ok {k : Int} (h0 : 0 ≤ k) (h1 : k < 100) : NmOk (("q" : Str) ++ numS k) := by
  obtain ⟨m, rfl⟩ := Int.eq_ofNat_of_zero_le h0
  have hl : (TL.numL m).length ≤ 2 := TL.numL_len (by decide) (by omega)
  have e1 : ("q" : Str).length = 1 := rfl
  have e2 : (numS (m : Int)).length ≤ 2 := by rw [TL.len_tl, tl_numS]; exact hl
  refine nmPre_ok ⟨fun c hc => ?_, ?_⟩ (by rw [slen_app]; omega) (by rw [slen_app]; omega)
  · rw [TL.tl_append, tl_numS] at hc
    rcases List.mem_append.mp hc with z | z
    · have : c = 113 := List.mem_singleton.mp z
      rw [this]; decide
    · exact nmCh_iff.mpr (.inr (TL.numL_digits m c z))
  · rw [TL.tl_append]
    show decide (113 ∈ lettersL) = true
    decide
/-- counts of names -/
structure Cnt (a : Str) (n : Int) (kvs : KVs) : Prop where
  nd : (kvs.map Prod.fst).Nodup
  ok : ∀ p ∈ kvs, NmOk p.1 ∧ ∃ i, p.2 = .int i ∧ NuOk i
  me : getP kvs a = some (.int n)
theorem Cnt.put {a : Str} {n : Int} {kvs : KVs} (h : Cnt a n kvs) {k : Str} {i : Int} (hk : NmOk k) (hi : NuOk i) (hne : ¬ k = a) : Cnt a n (putP kvs k (.int i)) := by
  refine ⟨?_, fun p hp => ?_, by rw [get_put_ne hne]; exact h.me⟩
  · unfold putP
    split
    · have : (kvs.map fun p => if p.1 = k then (p.1, D.int i) else p).map Prod.fst = kvs.map Prod.fst := by
        rw [List.map_map]
        refine List.map_congr_left fun p _ => ?_
        show (if p.1 = k then (p.1, D.int i) else p).1 = p.1
        split <;> rfl
      rw [this]; exact h.nd
    · rename_i hn
      rw [List.map_append, List.nodup_append]
      refine ⟨h.nd, by simp, fun x hx y hy => ?_⟩
      obtain ⟨p, hp, rfl⟩ := List.mem_map.mp hx
      have : y = k := by simpa using hy
      subst this
      intro e
      exact hn (List.any_eq_true.mpr ⟨p, hp, by simp [e]⟩)
  · unfold putP at hp
    split at hp
    · obtain ⟨q, hq, rfl⟩ := List.mem_map.mp hp
      split
      · exact ⟨(h.ok q hq).1, i, rfl, hi⟩
      · exact h.ok q hq
    · rcases List.mem_append.mp hp with z | z
      · exact h.ok p z
      · rw [List.mem_singleton.mp z]; exact ⟨hk, i, rfl, hi⟩
theorem Cnt.one {a : Str} {n : Int} (ha : NmOk a) (hn : NuOk n) : Cnt a n [(a, .int n)] := ⟨by simp, fun p hp => by rw [List.mem_singleton.mp hp]; exact ⟨ha, n, rfl, hn⟩, by simp [getP]⟩
theorem getP_in {k : Str} : ∀ {kvs : KVs}, k ∈ kvs.map Prod.fst → ∃ d, getP kvs k = some d ∧ (k, d) ∈ kvs
  | [], h => by cases h
  | (j, d) :: r, h => by
    by_cases e : j = k
    · subst e
      exact ⟨d, by simp [getP], List.mem_cons_self⟩
    · have h : k ∈ r.map Prod.fst := by
        rcases List.mem_cons.mp h with z | z
        · exact absurd z.symm e
        · exact z
      obtain ⟨d', h1, h2⟩ := getP_in h
      exact ⟨d', by simp only [getP, if_neg e]; exact h1, List.mem_cons_of_mem _ h2⟩
theorem getP_key {k : Str} {d : D} : ∀ {kvs : KVs}, getP kvs k = some d → k ∈ kvs.map Prod.fst
  | [], h => by cases h
  | (j, e) :: r, h => by
    have h : (if j = k then some e else getP r k) = some d := h
    split at h
    · rename_i ej; rw [List.map_cons, ej]; exact List.mem_cons_self
    · exact List.mem_cons_of_mem _ (getP_key h)
def cntI (kvs : KVs) (x : Str) : Int := intD ((getP kvs x).getD .non)
def cntD (kvs : KVs) : D → D
  | .str x => refD x (cntI kvs x)
  | d => d
theorem map_cntD (kvs : KVs) (ys : List Str) : (ys.map D.str).map (cntD kvs) = (ys.map fun x => (x, cntI kvs x)).map fun p => refD p.1 p.2 := by
  rw [List.map_map, List.map_map]; rfl
/-- what seen must be -/
structure SeenOk (a : Str) (n : Int) (es : List (Str × Int)) : Prop where
  ok : ∀ p ∈ es, NmOk p.1 ∧ NuOk p.2
  asc : ascL (es.map Prod.fst) = true
  me : (a, n) ∈ es
  len : es.length ≤ 47
theorem Cnt.seen {a : Str} {n : Int} {kvs : KVs} (h : Cnt a n kvs) (hl : kvs.length ≤ 47) {ys : List Str} (hp : ys.Perm (kvs.map Prod.fst)) (hs : sortedS ys = true) : SeenOk a n (ys.map fun x => (x, cntI kvs x)) := by
  have key : ∀ x ∈ ys, NmOk x ∧ NuOk (cntI kvs x) := fun x hx => by
    obtain ⟨d, h1, h2⟩ := getP_in (hp.subset hx)
    obtain ⟨q1, i, q2, q3⟩ := h.ok _ h2
    refine ⟨q1, ?_⟩
    unfold cntI
    rw [h1, show d = .int i from q2]; exact q3
  refine ⟨fun p hp' => ?_, ?_, ?_, ?_⟩
  · obtain ⟨x, hx, rfl⟩ := List.mem_map.mp hp'
    exact key x hx
  · rw [List.map_map]
    have : (ys.map (Prod.fst ∘ fun x => (x, cntI kvs x))) = ys := by
      have : (Prod.fst ∘ fun x : Str => (x, cntI kvs x)) = id := rfl
      rw [this, List.map_id]
    rw [this]
    exact ascL_sorted hs (hp.nodup_iff.mpr h.nd)
  · refine List.mem_map.mpr ⟨a, hp.symm.subset (getP_key h.me), ?_⟩
    unfold cntI
    rw [h.me]; rfl
  · rw [List.length_map, hp.length_eq, List.length_map]; exact hl
section
variable {Pr : Program} {w : World} {K : PySem.W.Frag} {mg : Str → Option Value} {base : Heap} {C CB : Addr}
abbrev fSeen : Fn := Fn2 fun d e P => ∃ a n, d = .str a ∧ e = .int n ∧ NmOk a ∧ NuOk n ∧ ∀ es, SeenOk a n es → P (.tup (es.map fun p => refD p.1 p.2))
abbrev fDraw : Fn := Fn0 fun P => ∀ L : Ltr, L.ok → L.es.length ≤ 47 → P L.d
theorem ok__law_seen (T : Txt w K mg C CB) : CallOk Pr w K mg base CX0 4 "_law_seen" ["_law_stream_here", "_law_author", "_law_number_here"] (spG K C (fSeen)) := by
  have c__law_names := @ok__law_names Pr w K mg base C CB T
  have c__law_next := @ok__law_next Pr w K mg base C CB T
  have c__law_number := @ok__law_number Pr w K mg base C CB T
  refine T.d__law_seen.ok sc__law_seen (fun vs H Q E h => len_G Fn2.len h) (fun f cdv A outer s H vs Q E hr h => ⟨_, (pss_cons (ps_set (i := 3) sc__law_seen.nd rfl (.inr rfl) (pe_disp (pps_cons (pv 1) (pv 2) pps_nil) (by rfl) (by rfl) (fun z => by cases z) (by decide)))
      (pss_cons (ps_for PassesOwn.never rfl (pi_list (pe_cal c__law_names (hr.mono (by decide)) pass0 (pa_cons (pv 0) (pa_cons (pe_ix ix_tup (pe_tup (pa_cons pe_int (pa_cons pe_int (pa_cons pe_int (pa_cons pe_int pa_nil))))) (pe_cal c__law_next (hr.mono (by decide)) pass0 (pa_cons (pv 0) (pa_cons pe_int pa_nil))) (fun _ _ => rfl)) pa_nil)))) (pg_name (i := 4) sc__law_seen.nd rfl (.inl rfl))
      (pss_one (ps_if (pt_cmpR op_ne (pv 4) (pv 1) (nomark _)) (pss_one (ps_dput (hu_of hr) (pv 3) (pv 4) (pe_cal c__law_number (hr.mono (by decide)) pass0 (pa_cons (pv 0) pa_nil)) rfl)) pss_nil)))
      (pss_cons (ps_if (pt_cmpR op_eq (pe_cal c__law_next (hr.mono (by decide)) pass0 (pa_cons (pv 0) (pa_cons pe_int pa_nil))) pe_int (nomark _)) (pss_one (ps_for PassesOwn.never rfl (pi_range2 rfl T.n_range (pa_cons pe_int (pa_cons (pe_op op_add pe_int (pe_cal c__law_next (hr.mono (by decide)) pass0 (pa_cons (pv 0) (pa_cons pe_int pa_nil)))) pa_nil))) (pg_name (i := 5) sc__law_seen.nd rfl (.inl rfl))
      (pss_one (ps_if (pt_cmpR op_ne (pe_op oAddS pe_str (pe_callTy cStrI (by rfl) T.n_str bb_str (pa_cons (pv 5) pa_nil))) (pv 1) (nomark _)) (pss_one (ps_dput (hu_of hr) (pv 3) (pe_op oAddS pe_str (pe_callTy cStrI (by rfl) T.n_str bb_str (pa_cons (pv 5) pa_nil))) (pe_cal c__law_number (hr.mono (by decide)) pass0 (pa_cons (pv 0) pa_nil)) rfl)) pss_nil)))) pss_nil)
      (pss_one (ps_ret (pe_callTy cTupO (by rfl) T.n_tuple bb_tuple (pa_cons (pe_lc (own := [("_law_name_here", 4)]) (g := gName 4) (tt := tYes) rfl sc__law_seen.nd (pi_list (pe_callB (cSortD rfl) (by rfl) T.n_sorted bb_sorted (pa_cons (pv 3) pa_nil))) (blkOk_by (own := [("_law_name_here", 4)]) (N := N__law_seen) (sc := defScope s__law_seen) (by decide +kernel)) (fun _ _ _ _ _ => pg_name (i := 4) sc__law_seen.nd rfl (Or.inl rfl)) (fun _ _ _ _ _ => pts_nil) (fun _ _ _ _ _ => (pe_tup (pa_cons (pv 4) (pa_cons (pe_dget (hu_of hr) (pv 3) (pv 4) (fun _ _ => rfl)) pa_nil))))) pa_nil))))))), body_G h fun ds P hf => ?_⟩)
  obtain ⟨_, _, rfl, a, n, rfl, rfl, ha, hn, p⟩ := hf
  refine ⟨Nat.le_of_ble_eq_true rfl, ?_⟩
  show WS _ _ [.strm, .dat (.str a), .dat (.int n), .un, .un, .un] _ _ _ _
  try dsimp only [cxOf]
  refine ws_seq ?_
  refine ws_disp (Nat.le_of_ble_eq_true rfl) ?_
  refine wp_var rfl ⟨a, rfl, wp_var rfl ⟨by simp, Nat.le_of_ble_eq_true rfl, fun q hq => ?_, ?_⟩⟩
  · rw [List.mem_singleton.mp hq]; exact flat_int
  have h0 := Cnt.one ha hn
  walk_at "w"
  refine od_ixT_all (by omega) (by simp only [List.length_cons, List.length_nil]; omega) (fun d hd => ?_)
  have hd := List.mem_of_getElem? hd
  obtain ⟨s, rfl, hs⟩ : ∃ s : Int, d = .int s ∧ 0 ≤ s ∧ s ≤ 15 := by
    simp only [List.mem_cons, List.not_mem_nil, or_false] at hd
    rcases hd with rfl | rfl | rfl | rfl <;> exact ⟨_, rfl, by omega⟩
  walk_at "w"
  rename_i xs hxs
  obtain ⟨hx1, hx2, hx3⟩ := hxs
  refine ForInv.mk (fun i τ' => ∃ kvs s4, τ' = [.strm, .dat (.str a), .dat (.int n), owndP kvs, s4, .un] ∧ Cnt a n kvs ∧ kvs.length ≤ 1 + i) ⟨[(a, .int n)], _, rfl, h0, Nat.le_refl _⟩ (fun i d τ' hd hI => ?_) (fun τ' hI => ?_)
  · obtain ⟨kvs, s4, rfl, hc, hl⟩ := hI
    have hi := (List.getElem?_eq_some_iff.mp hd).1
    rw [List.length_map] at hi
    obtain ⟨x, hx, rfl⟩ := List.mem_map.mp (List.mem_of_getElem? hd)
    have hx := hx2 x hx
    have hl' : kvs.length < 100000 := by omega
    walk_at "w"
    by_cases c : x = a
    · have e : (!decide (x = a)) = false := by simp [c]
      walk_at "w"
      omega
    · have e : (!decide (x = a)) = true := by simp [c]
      walk_at "w"
      rename_i m hm
      refine ⟨hc.put hx hm c, ?_⟩
      have := putP_len kvs x (.int m)
      omega
  · obtain ⟨kvs, s4, rfl, hc, hl⟩ := hI
    rw [List.length_map] at hl
    have hl16 : kvs.length ≤ 16 := by omega
    have fin : ∀ kvs : KVs, Cnt a n kvs → kvs.length ≤ 47 → ∀ s4 s5 : Sl, WS ⟨K, C, noG⟩ (tRet (tCB (rTupO K) (tCons (tLc (iList K (tCB rSortD (tCons (tVar 3) tNil))) (gName 4) tYes (tTup (tCons (tVar 4) (tCons (tDGet (tVar 3) (tVar 4)) tNil))) ([("_law_name_here", 4)].map fun x => x.2)) tNil)))
        [.strm, .dat (.str a), .dat (.int n), owndP kvs, s4, s5] P (fun _ => P .non) NoS NoS := fun kvs hc hl s4 s5 => by
      refine ws_ret ?_
      show WP _ _ [.strm, .dat (.str a), .dat (.int n), .dat (dctP kvs), s4.frz, s5.frz] _
      walk_at "w"
      refine cd_sortD (by omega) fun ys hp hs => ?_
      walk_at "w"
      have hsn := hc.seen hl hp hs
      refine LcInv.map (cntD kvs) ?la ?lb (fun i d hd => ?_) ?_
      case la => exact Nat.le_of_ble_eq_true rfl
      case lb => rw [List.length_map, hp.length_eq, List.length_map]; omega
      · obtain ⟨x, hx, rfl⟩ := List.mem_map.mp (List.mem_of_getElem? hd)
        obtain ⟨d, h1, h2⟩ := getP_in (hp.subset hx)
        obtain ⟨_, i, q2, _⟩ := hc.ok _ h2
        have q2 : d = .int i := q2
        subst q2
        refine wp_tup (wa_cons (wp_var rfl (wa_cons (wp_dget (wp_var rfl ⟨kvs, rfl, wp_var rfl ⟨x, .int i, rfl, h1, wa_nil ⟨Nat.le_of_ble_eq_true rfl, ?_⟩⟩⟩)))))
        show D.tup [.str x, .int i] = D.tup [.str x, .int (cntI kvs x)]
        unfold cntI
        rw [h1]; rfl
      · rw [map_cntD]
        walk_at "w"
        exact p _ hsn
    walk_at "w"
    refine if_2 (fun h1 => ?_) (fun h1 => ?_)
    · walk_at "w"
      rename_i m hm
      refine ForInv.mk (fun i τ' => ∃ kvs s4 s5, τ' = [.strm, .dat (.str a), .dat (.int n), owndP kvs, s4, s5] ∧ Cnt a n kvs ∧ kvs.length ≤ 16 + i) ⟨kvs, _, _, rfl, hc, by omega⟩ (fun i d τ' hd hI => ?_) (fun τ' hI => ?_)
      · obtain ⟨kvs, s4, s5, rfl, hc, hl⟩ := hI
        obtain ⟨hi, rfl⟩ := rgD_get hd
        have hl' : kvs.length < 100000 := by omega
        have hlog := log_ok (n := 10 + (i : Nat)) (by omega) (by omega)
        have hnl := numS_len (n := 10 + (i : Nat)) (by omega) (by omega)
        have hnl' : (Str.ofString (toString (10 + ((i : Nat) : Int)))).length ≤ 19 := hnl
        have eq1 : (Str.ofString "q").length = 1 := rfl
        have hq := q_ok (k := 10 + (i : Nat)) (by omega) (by omega)
        walk_at "w"
        by_cases c : Str.ofString "q" ++ Str.ofString (toString (10 + ((i : Nat) : Int))) = a
        · have e : (!decide (Str.ofString "q" ++ Str.ofString (toString (10 + ((i : Nat) : Int))) = a)) = false := by rw [decide_eq_true c]; rfl
          walk_at "w"
          omega
        · have e : (!decide (Str.ofString "q" ++ Str.ofString (toString (10 + ((i : Nat) : Int))) = a)) = true := by rw [decide_eq_false c]; rfl
          walk_at "w"
          rename_i j hj
          refine ⟨hc.put hq hj c, ?_⟩
          have := putP_len kvs (Str.ofString "q" ++ Str.ofString (toString (10 + ((i : Nat) : Int)))) (.int j)
          omega
      · obtain ⟨kvs, s4, s5, rfl, hc, hl⟩ := hI
        rw [rgD_len] at hl
        exact fin kvs hc (by omega) s4 s5
    · refine ws_next ?_
      exact fin kvs hc (by omega) s4 .un
theorem kind_found {b : Bod} (h : b.kind = "found") : ∃ t ms, b = .found t ms := by
  cases b with
  | found t ms => exact ⟨t, ms, rfl⟩
  | _ => simp only [Bod.kind] at h; exact absurd h (by decide)
theorem ok__law_value (T : Txt w K mg C CB) : CallOk Pr w K mg base CX0 5 "_law_value" ["_law_stream_here"] (spG K C (fDraw)) := by
  have c__law_body := @ok__law_body Pr w K mg base C CB T
  have c__law_name := @ok__law_name Pr w K mg base C CB T
  have c__law_next := @ok__law_next Pr w K mg base C CB T
  have c__law_number := @ok__law_number Pr w K mg base C CB T
  have c__law_seen := @ok__law_seen Pr w K mg base C CB T
  refine T.d__law_value.ok sc__law_value (fun vs H Q E h => len_G Fn0.len h) (fun f cdv A outer s H vs Q E hr h => ⟨_, (pss_cons (ps_set (i := 1) sc__law_value.nd rfl (.inl rfl) (pe_cal c__law_name (hr.mono (by decide)) pass0 (pa_cons (pv 0) pa_nil)))
      (pss_cons (ps_set (i := 2) sc__law_value.nd rfl (.inl rfl) (pe_cal c__law_body (hr.mono (by decide)) pass0 (pa_cons (pv 0) (pa_cons (pv 1) pa_nil))))
      (pss_cons (ps_if (pt_cmpR op_eq (pe_ix ix_tup (pv 2) pe_int (fun _ _ => rfl)) pe_str (nomark _)) (pss_one (ps_ret (pe_tup (pa_cons (pv 1) (pa_cons pe_int (pa_cons pe_int (pa_cons (pe_tup (pa_cons (pe_tup (pa_cons (pv 1) (pa_cons pe_int pa_nil))) pa_nil)) (pa_cons (pv 2) pa_nil)))))))) pss_nil)
      (pss_cons (ps_set (i := 3) sc__law_value.nd rfl (.inl rfl) (pe_cal c__law_number (hr.mono (by decide)) pass0 (pa_cons (pv 0) pa_nil)))
      (pss_cons (ps_set (i := 4) sc__law_value.nd rfl (.inl rfl) (pe_callB (cMax2 rfl) (by rfl) T.n_max bb_max (pa_cons pe_int (pa_cons (pv 3) pa_nil))))
      (pss_cons (ps_set (i := 5) sc__law_value.nd rfl (.inl rfl) (pe_ix ix_tup (pe_tup (pa_cons (pv 4) (pa_cons (pe_op op_pow pe_int pe_int) (pa_cons (pe_callB (cMin2 rfl) (by rfl) T.n_min bb_min (pa_cons (pe_op op_pow pe_int pe_int) (pa_cons (pe_op op_add (pv 4) (pe_cal c__law_number (hr.mono (by decide)) pass0 (pa_cons (pv 0) pa_nil))) pa_nil))) pa_nil)))) (pe_cal c__law_next (hr.mono (by decide)) pass0 (pa_cons (pv 0) (pa_cons pe_int pa_nil))) (fun _ _ => rfl)))
      (pss_one (ps_ret (pe_tup (pa_cons (pv 1) (pa_cons (pv 3) (pa_cons (pv 5) (pa_cons (pe_cal c__law_seen (hr.mono (by decide)) pass0 (pa_cons (pv 0) (pa_cons (pv 1) (pa_cons (pv 3) pa_nil)))) (pa_cons (pv 2) pa_nil)))))))))))))), body_G h fun ds P hf => ?_⟩)
  obtain ⟨rfl, p⟩ := hf
  refine ⟨Nat.le_of_ble_eq_true rfl, ?_⟩
  show WS _ _ [.strm, .un, .un, .un, .un, .un] _ _ _ _
  try dsimp only [cxOf]
  walk_at "w"
  rename_i a ha
  refine fun b hb hm => ?_
  refine g_WG ?_
  walk_at "w"
  by_cases hk : b.kind = "found"
  · obtain ⟨t, ms, rfl⟩ := kind_found hk
    walk_at "w"
    refine p ⟨a, 1, 1, [(a, 1)], .found t ms⟩ ⟨ha, nuOk_of (i := 1) (by omega), nuOk_of (i := 1) (by omega), fun q hq => ?_, rfl, hb, List.mem_singleton.mpr rfl, Int.le_refl _, ?_⟩ (Nat.le_of_ble_eq_true rfl)
    · rw [List.mem_singleton.mp hq]; exact ⟨ha, nuOk_of (by omega)⟩
    · show if Str.ofString "found" = "found" then _ else _
      rw [if_pos rfl]
      refine ⟨rfl, rfl, ?_⟩
      show (ms.map D.str).any (D.eqS a) = false
      rw [any_eqS]
      exact decide_eq_false (hm t ms rfl)
  · have e : decide (b.kind = "found") = false := by simp [hk]
    walk_at "w"
    rename_i n hn m hm' _ _
    obtain ⟨n', en, hn1, hn2⟩ := numOk_nat hn
    obtain ⟨m', em, hm1, hm2⟩ := numOk_nat hm'
    refine od_ixT_all (by omega) (by simp only [List.length_cons, List.length_nil]; omega) (fun d hd => ?_)
    have hd := List.mem_of_getElem? hd
    obtain ⟨s, rfl, hs⟩ : ∃ s : Int, d = .int s ∧ 1 < s ∧ n ≤ s ∧ s ≤ 1000000000000000000 := by
      simp only [List.mem_cons, List.not_mem_nil, or_false] at hd
      rcases hd with rfl | rfl | rfl
      · refine ⟨_, rfl, ?_⟩
        split <;> omega
      · exact ⟨_, rfl, by omega⟩
      · refine ⟨_, rfl, ?_⟩
        split <;> split <;> omega
    walk_at "w"
    refine ⟨a, n, rfl, rfl, ha, hn, fun es hes => ?_⟩
    refine g_WA ?_
    walk_at "w"
    refine p ⟨a, n, s, es, b⟩ ⟨ha, hn, nuOk_of (i := s) (by omega), hes.ok, hes.asc, hb, hes.me, hs.2.1, ?_⟩ hes.len
    show if b.kind = "found" then _ else _
    rw [if_neg hk]
    exact hs.1
end
end
section
open PySem PySem.Spec PyProof.Rows L2
open Evl (Ex ex_rd ex_l ex_t)
open CwR
set_option autoImplicit false
open Bod (NmOk NuOk TtOk TxOk)
def szN : Nat → Nat
  | 0 => 4000
  | i + 1 => 2 * szN i + 40
theorem szN_le {k : Nat} (h : k ≤ 3) : szN k ≤ 40000 := by
  rcases k with _ | _ | _ | _ | k
  · decide
  · decide
  · decide
  · decide
  · omega
theorem Siz.mono {n m : Nat} {ls : List Str} (h : Siz n ls) (hm : n ≤ m) : Siz m ls := ⟨Nat.le_trans h.sum hm, Nat.le_trans h.len hm, h.ch⟩
section
variable {K : PySem.W.Frag} {C : Addr} {vs : List V} {H : Hp} {Q : VK} {E : XK} {N : List Str}
theorem strm_body {t1 t2 : TS} {ta : TA} (h : spStrm vs H Q E) (b : ∀ i j : Int, 2 ≤ N.length ∧ WS ⟨K, C, noG⟩ t1 (startS N [.int i, .int j]) (fun _ => False) (fun τ1 => WS ⟨K, C, noG⟩ t2 τ1 (fun _ => False) (fun τ2 => WA ⟨K, C, noG⟩ ta τ2 fun ds => ∃ d s : Int, ds = [.int d, .int s]) NoS NoS) NoS NoS) :
    tSeq t1 (tSeq t2 (tRet (tLst ta))) { nx := fun _ H' => Q .non H', rt := Q } (L2.start N vs) H := by
  obtain ⟨i, j, rfl, q⟩ := h
  obtain ⟨hl, b⟩ := b i j
  have g : Gd none [] H := ⟨(fun _ h => nomatch h), (fun a e => nomatch e), (fun a e => nomatch e)⟩
  refine b none [] H [] _ H trivial (startS_rep g ⟨_, _, rfl, rfl, _, _, rfl, rfl, rfl⟩ hl) _ (fun v H' d s rv p => p.elim) (fun A1 σ1 H1 τ1 tr R1 h1 => ?_) (fun _ _ _ _ _ _ z => z.elim) (fun _ _ _ _ _ _ z => z.elim)
  refine h1 none [] H A1 σ1 H1 trivial R1 _ (fun v H' d s rv p => p.elim) (fun A2 σ2 H2 τ2 tr2 R2 h2 => ?_) (fun _ _ _ _ _ _ z => z.elim) (fun _ _ _ _ _ _ z => z.elim)
  refine h2 none [] H A2 σ2 H2 trivial R2 _ fun us H3 ds s3 r3 p => ?_
  obtain ⟨d, s, rfl⟩ := p
  obtain ⟨v, r, e1, e2, v', r', e3, e4, e5⟩ := r3
  subst e5; subst e3; subst e1
  rw [show v = .int d from e2, show v' = .int s from e4]
  exact ⟨Evl.sz_of (by show 2 ≤ 100000; decide), fun a ha => q H3 (fun b o e => (R2.step s3).st.keep b o (fun z => by cases z) e) a d s ha⟩
theorem body_P0 {f : Fn} {t : TS} (h : spP K C f vs H Q E) (b : ∀ ds P, f ds P → ds.length ≤ N.length ∧ WS ⟨K, C, G0⟩ t (startS N ds) P (fun _ => P .non) NoS NoS) : t { nx := fun _ H' => Q .non H', rt := Q } (L2.start N vs) H := by
  obtain ⟨O, ds, P, hO, r, hf, q⟩ := h
  obtain ⟨hl, b⟩ := b ds P hf
  have g : Gd none O H := ⟨hO, (fun a e => nomatch e), (fun a e => nomatch e)⟩
  have ex : ∀ H', Stp none H H' → Ex H H' := fun H' s b o e => s.keep b o (by intro z; cases z) e
  refine b none O H [] _ H rfl (startS_rep g r hl) _ (fun v H' d s rv p => q v H' d (ex H' s) rv p) (fun A' σ' H' τ' tr R p => q .non H' .non (ex H' R.st) rfl p) (fun _ _ _ _ _ _ z => z) (fun _ _ _ _ _ _ z => z)
end
section
variable {Pr : Program} {w : World} {K : PySem.W.Frag} {mg : Str → Option Value} {base : Heap} {C CB : Addr}
abbrev fLaw : Fn := Fn1 fun d P => ∃ ns : List Int, d = .scr ns ∧ ns.length ≤ 63 ∧ P (.bl true)
theorem ok__law_stream (T : Txt w K mg C CB) : CallOk Pr w K mg base CX0 1 "_law_stream" ["_law_cell_here", "_law_k"] (spStrm) := by
  refine T.d__law_stream.ok sc__law_stream (fun vs H Q E h => by obtain ⟨i, j, rfl, _⟩ := h; rfl) (fun f cdv A outer s H vs Q E hr h => ⟨_, (pss_cons (ps_set (i := 2) sc__law_stream.nd rfl (.inl rfl) pe_int)
      (pss_cons (ps_if (pt_cmpR op_ge (pv 0) (pe_op op_pow pe_int pe_int) (nomark _)) (pss_one (ps_set (i := 2) sc__law_stream.nd rfl (.inl rfl) (pv 0))) pss_nil)
      (pss_one (ps_ret (pe_lst (pa_cons (pv 2) (pa_cons (pe_op op_mod (pe_callTy cInt1 (by rfl) T.n_int bb_int (pa_cons (pe_op op_add (pe_op op_add (pe_op op_mul (pv 0) pe_int) (pe_op op_mul (pv 1) pe_int)) pe_int) pa_nil)) pe_int) pa_nil))))))), strm_body (K := K) (C := C) h fun i j => ?_⟩)
  refine ⟨Nat.le_of_ble_eq_true rfl, ?_⟩
  show WS _ _ [.dat (.int i), .dat (.int j), .un] _ _ _ _
  try dsimp only [cxOf]
  walk_at "w"
  refine if_2 (fun _ => ?_) (fun _ => ?_)
  · walk_at "w"
    exact ⟨_, _, rfl⟩
  · walk_at "w"
    exact ⟨_, _, rfl⟩
theorem ok_law (T : Txt w K mg C CB) {fl : Addr} {fdl : FuncData} (F : Fun K "law" "law" s_law fl fdl) : FnOk Pr w K mg base CX0 9 fl fdl ["_law_script"] (spP K C (fLaw)) := by
  have c__law_asked := @ok__law_asked Pr w K mg base C CB T
  have c__law_change := @ok__law_change Pr w K mg base C CB T
  have c__law_reads := @ok__law_reads Pr w K mg base C CB T
  have c__law_next := @ok__law_next Pr w K mg base C CB T
  have c__law_cell := @ok__law_cell Pr w K mg base C CB T
  have c__law_stream := @ok__law_stream Pr w K mg base C CB T
  have c__law_value := @ok__law_value Pr w K mg base C CB T
  have c__law_mail := @ok__law_mail Pr w K mg base C CB T
  refine F.ok sc_law (fun vs H Q E h => len_P Fn1.len h) (fun cdv A outer s H vs Q E hr h => ⟨_, (pss_cons (ps_for PassesOwn.never rfl (pi_range1 rfl T.n_range (pa_cons (pe_op op_add pe_int (pe_callB (cMin2 rfl) (by rfl) T.n_min bb_min (pa_cons (pe_callB cLen (by rfl) T.n_len bb_len (pa_cons (pv 0) pa_nil)) (pa_cons pe_int pa_nil)))) pa_nil)) (pg_name (i := 1) sc_law.nd rfl (.inl rfl))
      (pss_cons (ps_set (i := 2) sc_law.nd rfl (.inl rfl) (pe_cal c__law_stream (hr.mono (by decide)) pass0 (pa_cons (pe_cal c__law_cell (hr.mono (by decide)) pass0 (pa_cons (pv 0) (pa_cons (pv 1) pa_nil))) (pa_cons (pv 1) pa_nil))))
      (pss_cons (ps_set (i := 3) sc_law.nd rfl (.inl rfl) (pe_cal c__law_value (hr.mono (by decide)) pass0 (pa_cons (pv 2) pa_nil)))
      (pss_cons (ps_set (i := 4) sc_law.nd rfl (.inl rfl) (pe_cal c__law_mail (hr.mono (by decide)) pass0 (pa_cons (pv 2) (pa_cons (pv 3) pa_nil))))
      (pss_cons (ps_for PassesOwn.never rfl (pi_range1 rfl T.n_range (pa_cons pe_int pa_nil)) (pg_name (i := 5) sc_law.nd rfl (.inl rfl))
      (pss_cons (ps_set (i := 6) sc_law.nd rfl (.inl rfl) (pv 4))
      (pss_cons (ps_for PassesOwn.never rfl (pi_range1 rfl T.n_range (pa_cons (pe_op op_add pe_int (pe_cal c__law_next (hr.mono (by decide)) pass0 (pa_cons (pv 2) (pa_cons pe_int pa_nil)))) pa_nil)) (pg_name (i := 7) sc_law.nd rfl (.inl rfl))
      (pss_one (ps_set (i := 6) sc_law.nd rfl (.inl rfl) (pe_cal c__law_change (hr.mono (by decide)) pass0 (pa_cons (pv 2) (pa_cons (pv 6) pa_nil))))))
      (pss_one (ps_if (pt_not (pt_val (pe_cal c__law_asked (hr.mono (by decide)) pass0 (pa_cons (pv 6) (pa_cons (pe_cal c__law_next (hr.mono (by decide)) pass0 (pa_cons (pv 2) (pa_cons pe_int pa_nil))) pa_nil))))) (pss_one (ps_ret pe_bl)) pss_nil)))))
      (pss_one (ps_if (pt_not (pt_val (pe_cal c__law_reads (hr.mono (by decide)) pass0 (pa_cons (pv 4) (pa_cons pe_int (pa_cons (pv 3) (pa_cons (pe_callB cLen (by rfl) T.n_len bb_len (pa_cons (pv 4) pa_nil)) pa_nil))))))) (pss_one (ps_ret pe_bl)) pss_nil)))))))
      (pss_one (ps_ret pe_bl))), body_P0 h fun ds P hf => ?_⟩)
  obtain ⟨_, rfl, ns, rfl, hn, p⟩ := hf
  refine ⟨Nat.le_of_ble_eq_true rfl, ?_⟩
  show WS _ _ [.dat (.scr ns), .un, .un, .un, .un, .un, .un, .un] _ _ _ _
  try dsimp only [cxOf]
  walk_at "w"
  refine ForInv.mk (fun i τ' => ∃ s1 s2 s3 s4 s5 s6 s7, τ' = [.dat (.scr ns), s1, s2, s3, s4, s5, s6, s7]) ⟨_, _, _, _, _, _, _, rfl⟩ (fun i d τ' hd hI => ?_) (fun τ' hI => ?_)
  · obtain ⟨s1, s2, s3, s4, s5, s6, s7, rfl⟩ := hI
    obtain ⟨hi, rfl⟩ := rgD_get hd
    rw [Int.zero_add]
    refine wg_name (Nat.le_of_ble_eq_true rfl) ?_
    refine ws_strm (Nat.le_of_ble_eq_true rfl) ?_
    walk_at "w"
    refine ⟨ns, i, rfl, rfl, fun c => ?_⟩
    refine g_WA ?_
    walk_at "w"
    intro L hok hes
    refine g_WG ?_
    walk_at "w"
    rename_i ls hm
    have hback := mail_back hok hm
    have hsiz := mail_siz hok hes hm
    have hL := (hsiz.mono (by decide : 4000 ≤ 40000)).lnOk
    refine ForInv.mk (fun j τ' => ∃ s5 s6 s7, τ' = [.dat (.scr ns), .dat (.int ((i : Nat) : Int)), .strm, .dat L.d, .dat (.lst (ls.map .str)), s5, s6, s7]) ⟨_, _, _, rfl⟩ (fun j d τ' hd hI => ?_) (fun τ' hI => ?_)
    · obtain ⟨s5, s6, s7, rfl⟩ := hI
      refine wg_name (Nat.le_of_ble_eq_true rfl) ?_
      walk_at "w"
      rename_i r hr
      refine ForInv.mk (fun k τ' => ∃ xs s5 s7, τ' = [.dat (.scr ns), .dat (.int ((i : Nat) : Int)), .strm, .dat L.d, .dat (.lst (ls.map .str)), s5, .dat (.lst (xs.map .str)), s7] ∧ Siz (szN k) xs) ⟨ls, _, _, rfl, hsiz⟩ (fun k d τ' hd hI => ?_) (fun τ' hI => ?_)
      · obtain ⟨xs, s5, s7, rfl, hx⟩ := hI
        obtain ⟨hk, rfl⟩ := rgD_get hd
        have hk3 : k < 3 := by omega
        have hk2 : szN k ≤ 20000 := by
          rcases k with _ | _ | _ | k
          · decide
          · decide
          · decide
          · omega
        refine wg_name (Nat.le_of_ble_eq_true rfl) ?_
        walk_at "w"
        refine ⟨xs, szN k, rfl, hx, hk2, ?_⟩
        walk_at "w"
        rename_i ys hy
        exact hy
      · obtain ⟨xs, s5, s7, rfl, hx⟩ := hI
        rw [rgD_len] at hx
        walk_at "w"
        rename_i f hf
        obtain ⟨f, rfl⟩ := Int.eq_ofNat_of_zero_le hf.1
        refine ⟨xs, f, rfl, rfl, by omega, hx.mono (szN_le (by omega)), ?_⟩
        refine ⟨true, rfl, if_f ?_⟩
        walk_at "w"
        exact ⟨_, _, _, rfl⟩
    · obtain ⟨s5, s6, s7, rfl⟩ := hI
      walk_at "w"
      refine ⟨ls, 0, ls.length, L, L.hdr, L.b.text, rfl, rfl, rfl, by rw [List.length_map, Nat.zero_add], hL, by rw [List.drop_zero]; exact hback, ⟨hok, rfl, rfl⟩, ?_⟩
      refine ⟨true, rfl, if_f ?_⟩
      walk_at "w"
      exact ⟨_, _, _, _, _, _, _, rfl⟩
  · obtain ⟨s1, s2, s3, s4, s5, s6, s7, rfl⟩ := hI
    walk_at "w"
    exact p
end
end
section
open PySem PySem.Spec PyProof.Rows L2
theorem law_end : LawEnd := fun w mg fa h Y G hmg => by
  obtain ⟨K, KX, c⟩ := Y
  have T := txt_of KX G c
  obtain ⟨f, fd, F, g, b⟩ := T.d_law.ex
  rw [hmg] at g
  cases g
  have bA : ∀ (s : Shared) (u : Value), BindsTo s fd ⟨[u], []⟩ [("_law_script", u)] := by
    obtain ⟨oc, od, kV, doc, pm, an, cdv, ct, osl, rfl, lk, hcd⟩ := F.ex
    exact fun s u => .of_eq (by rfl)
  refine ⟨K, fd, spP K (gC K) fLaw, KX, bA, fun H a ns hl _ hS => ?_, fun base _ _ => ?_⟩
  · refine ⟨[], [.scr ns], (fun d => d = .bl true), (fun _ h => nomatch h), ⟨_, _, rfl, ⟨a, rfl, ?_⟩, rfl⟩, ⟨_, rfl, ns, rfl, hl, rfl⟩, fun v H' d _ r e => ?_⟩
    · have : Er [] H = H := funext fun b => rfl
      rw [this]; exact hS
    · subst e; exact r
  · exact ok_law T F
end
end K15
theorem PySem.Challenge.cw_lettersonce_k15_whole_spoilt_mail_holds : PySem.Challenge.rw_lettersonce_k15_whole_spoilt_mail.Holds := by
  exact K15.main_of K15.law_end
