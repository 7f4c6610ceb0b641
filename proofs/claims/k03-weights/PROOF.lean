import PyProof.Rows.All
import Wide.All
import OpenK.AllK
import Wide.FinOn
import HandS.ForMost
import HandS.Conv
import HandS.TupAny
import HandS.TupMul
import HandS.Wide
import HandS.IsInst
import HandS.Deep
import HandS.DictComp
import HandS.Zip
import HandS.Defaults
import KE.DatumOrd
import KE.SortData
import HandS.SetFor
import HandS.Strs
import HandS.Small
import HandS.Codes
import HandS.Head0
import HandS.Head1
import HandS.Head2
import HandS.HeadEnd
import HandS.HeadHook1
import HandS.HeadHook2
import HandS.Ends
import PySem.Challenge.RW_bakewright_k03_main_weights_go_along
set_option Elab.async false
set_option linter.all false
set_option maxRecDepth 100000
set_option maxHeartbeats 0
namespace Bw
open PySem PySem.Spec PyProof.Rows L2
/-! data in the heap -/
/-- the written part, the defs' addresses by name -/
structure Gm where
  K : PySem.W.Frag
  fa : Str → Option Addr
def kd : Key → PyData
  | .inl i => .int i
  | .inr x => .str x
def fnD (x : Str) : PyData := .dict [(.none, .str x)]
/-- a list of ints that may not be written -/
def lkD (ns : List Int) : PyData := .dict [(.bool true, .list (ns.map PyData.int))]
def realD : List (PyData × PyData) → Bool
  | (.none, _) :: _ => false
  | (.bool _, _) :: _ => false
  | _ => true
mutual
def Rp (G : Gm) (H : Hp) : PyData → V → Prop
  | .none, v => v = .non
  | .bool b, v => v = .bl b
  | .int i, v => v = .int i
  | .str x, v => v = .str x
  | .list ds, v => ∃ a xs, v = .ref a ∧ H a = some (.lst xs) ∧ RpL G H ds xs
  | .tuple ds, v => ∃ a xs, v = .ref a ∧ SqT G.K H a xs ∧ RpL G H ds xs
  | .dict kvs, v => (∃ a ks, v = .ref a ∧ H a = some (.dK ks) ∧ RpD G H kvs ks) ∨ (∃ x a, kvs = [(.none, .str x)] ∧ v = .ref a ∧ G.fa x = some a) ∨
    ∃ (ns : List Int) (a : Addr), kvs = [(.bool true, .list (ns.map PyData.int))] ∧ v = .ref a ∧ SqL G.K H a (ns.map V.int)
def RpL (G : Gm) (H : Hp) : List PyData → List V → Prop
  | [], xs => xs = []
  | d :: ds, xs => ∃ v vs, xs = v :: vs ∧ Rp G H d v ∧ RpL G H ds vs
def RpD (G : Gm) (H : Hp) : List (PyData × PyData) → List (Key × V) → Prop
  | [], ks => ks = []
  | (k, d) :: r, ks => ∃ kk v rest, ks = (kk, v) :: rest ∧ kd kk = k ∧ Rp G H d v ∧ RpD G H r rest
end
def Ex (H H' : Hp) : Prop := ∀ a o, H a = some o → H' a = some o
theorem Ex.refl (H : Hp) : Ex H H := fun _ _ h => h
theorem Ex.trans {H H1 H2 : Hp} (a : Ex H H1) (b : Ex H1 H2) : Ex H H2 := fun x o h => b x o (a x o h)
theorem Ex.new {H : Hp} {p : Addr} {o : HO} (h : H p = none) : Ex H (upd H p o) := fun a u e => by
  rw [upd_ne (ne_of_none e h)]; exact e
theorem Ex.rd {H H' : Hp} {a : Addr} {u : HO} (e : Ex H H') (h : Rd H a u) : Rd H' a u := by
  rcases h with h | ⟨o, h⟩
  · exact Or.inl (e a _ h)
  · exact Or.inr ⟨o, e a _ h⟩
theorem Ex.l {K : PySem.W.Frag} {H H' : Hp} {a : Addr} {xs : List V} (e : Ex H H') (h : SqL K H a xs) : SqL K H' a xs := by
  rcases h with h | h
  · exact Or.inl (e.rd h)
  · exact Or.inr h
theorem Ex.t {K : PySem.W.Frag} {H H' : Hp} {a : Addr} {xs : List V} (e : Ex H H') (h : SqT K H a xs) : SqT K H' a xs := by
  rcases h with h | h
  · exact Or.inl (e.rd h)
  · exact Or.inr h
mutual
theorem Rp.mono {G : Gm} {H H' : Hp} (e : Ex H H') : ∀ {d : PyData} {v : V}, Rp G H d v → Rp G H' d v
  | .none, v, h => by simpa only [Rp] using h
  | .bool b, v, h => by simpa only [Rp] using h
  | .int i, v, h => by simpa only [Rp] using h
  | .str x, v, h => by simpa only [Rp] using h
  | .list ds, v, h => by
    simp only [Rp] at h ⊢
    obtain ⟨a, xs, rfl, hs, hr⟩ := h
    exact ⟨a, xs, rfl, e _ _ hs, RpL.mono e hr⟩
  | .tuple ds, v, h => by
    simp only [Rp] at h ⊢
    obtain ⟨a, xs, rfl, hs, hr⟩ := h
    exact ⟨a, xs, rfl, e.t hs, RpL.mono e hr⟩
  | .dict kvs, v, h => by
    simp only [Rp] at h ⊢
    rcases h with ⟨a, ks, rfl, hs, hr⟩ | h
    · exact Or.inl ⟨a, ks, rfl, e _ _ hs, RpD.mono e hr⟩
    · rcases h with h | ⟨ns, a, h1, h2, h3⟩
      · exact Or.inr (.inl h)
      · exact Or.inr (.inr ⟨ns, a, h1, h2, e.l h3⟩)
theorem RpL.mono {G : Gm} {H H' : Hp} (e : Ex H H') : ∀ {ds : List PyData} {xs : List V}, RpL G H ds xs → RpL G H' ds xs
  | [], xs, h => by simpa only [RpL] using h
  | d :: ds, xs, h => by
    simp only [RpL] at h ⊢
    obtain ⟨v, vs, rfl, h1, h2⟩ := h
    exact ⟨v, vs, rfl, Rp.mono e h1, RpL.mono e h2⟩
theorem RpD.mono {G : Gm} {H H' : Hp} (e : Ex H H') : ∀ {ds : List (PyData × PyData)} {xs : List (Key × V)}, RpD G H ds xs → RpD G H' ds xs
  | [], xs, h => by simpa only [RpD] using h
  | (k, d) :: ds, xs, h => by
    simp only [RpD] at h ⊢
    obtain ⟨kk, v, vs, rfl, hk, h1, h2⟩ := h
    exact ⟨kk, v, vs, rfl, hk, Rp.mono e h1, RpD.mono e h2⟩
end
theorem RpL.length {G : Gm} {H : Hp} : ∀ {ds : List PyData} {xs : List V}, RpL G H ds xs → xs.length = ds.length
  | [], xs, h => by simp only [RpL] at h; rw [h]; rfl
  | d :: ds, xs, h => by
    simp only [RpL] at h
    obtain ⟨v, vs, rfl, h1, h2⟩ := h
    simp [RpL.length h2]
theorem RpL.nil {G : Gm} {H : Hp} : RpL G H [] [] := by simp only [RpL]
theorem RpL.cons {G : Gm} {H : Hp} {d : PyData} {v : V} {ds : List PyData} {vs : List V} (h : Rp G H d v) (t : RpL G H ds vs) : RpL G H (d :: ds) (v :: vs) := by
  simp only [RpL]; exact ⟨v, vs, rfl, h, t⟩
theorem RpL.append {G : Gm} {H : Hp} : ∀ {ds es : List PyData} {xs ys : List V}, RpL G H ds xs → RpL G H es ys → RpL G H (ds ++ es) (xs ++ ys)
  | [], es, xs, ys, h, t => by simp only [RpL] at h; subst h; exact t
  | d :: ds, es, xs, ys, h, t => by
    simp only [RpL] at h
    obtain ⟨v, vs, rfl, h1, h2⟩ := h
    exact RpL.cons h1 (RpL.append h2 t)
theorem RpL.get {G : Gm} {H : Hp} : ∀ {ds : List PyData} {xs : List V} {i : Nat} {d : PyData}, RpL G H ds xs → ds[i]? = some d → ∃ v, xs[i]? = some v ∧ Rp G H d v
  | [], _, _, _, _, e => by simp at e
  | d :: ds, xs, 0, d', h, e => by
    simp only [RpL] at h
    obtain ⟨v, vs, rfl, h1, h2⟩ := h
    simp at e; subst e
    exact ⟨v, rfl, h1⟩
  | d :: ds, xs, i + 1, d', h, e => by
    simp only [RpL] at h
    obtain ⟨v, vs, rfl, h1, h2⟩ := h
    obtain ⟨u, hu, r⟩ := RpL.get (i := i) h2 (by simpa using e)
    exact ⟨u, by simpa using hu, r⟩
theorem RpL.getV {G : Gm} {H : Hp} : ∀ {ds : List PyData} {xs : List V} {i : Nat} {v : V}, RpL G H ds xs → xs[i]? = some v → ∃ d, ds[i]? = some d ∧ Rp G H d v
  | [], xs, i, v, h, e => by simp only [RpL] at h; subst h; simp at e
  | d :: ds, xs, 0, v', h, e => by
    simp only [RpL] at h
    obtain ⟨v, vs, rfl, h1, h2⟩ := h
    simp at e; subst e
    exact ⟨d, rfl, h1⟩
  | d :: ds, xs, i + 1, v', h, e => by
    simp only [RpL] at h
    obtain ⟨v, vs, rfl, h1, h2⟩ := h
    obtain ⟨u, hu, r⟩ := RpL.getV (i := i) h2 (by simpa using e)
    exact ⟨u, by simpa using hu, r⟩
theorem RpL.take {G : Gm} {H : Hp} : ∀ {ds : List PyData} {xs : List V} (n : Nat), RpL G H ds xs → RpL G H (ds.take n) (xs.take n)
  | _, _, 0, _ => by simp [RpL]
  | [], xs, n + 1, h => by simp only [RpL] at h; subst h; simp [RpL]
  | d :: ds, xs, n + 1, h => by
    simp only [RpL] at h
    obtain ⟨v, vs, rfl, h1, h2⟩ := h
    exact RpL.cons h1 (RpL.take n h2)
theorem RpL.drop {G : Gm} {H : Hp} : ∀ {ds : List PyData} {xs : List V} (n : Nat), RpL G H ds xs → RpL G H (ds.drop n) (xs.drop n)
  | _, _, 0, h => h
  | [], xs, n + 1, h => by simp only [RpL] at h; subst h; simp [RpL]
  | d :: ds, xs, n + 1, h => by
    simp only [RpL] at h
    obtain ⟨v, vs, rfl, h1, h2⟩ := h
    exact RpL.drop n h2
theorem RpL.set {G : Gm} {H : Hp} {d : PyData} {v : V} (r : Rp G H d v) : ∀ {ds : List PyData} {xs : List V} (n : Nat), RpL G H ds xs → RpL G H (ds.set n d) (xs.set n v)
  | [], xs, n, h => by simp only [RpL] at h; subst h; simp [RpL]
  | d :: ds, xs, 0, h => by
    simp only [RpL] at h
    obtain ⟨v, vs, rfl, h1, h2⟩ := h
    exact RpL.cons r h2
  | d :: ds, xs, n + 1, h => by
    simp only [RpL] at h
    obtain ⟨v, vs, rfl, h1, h2⟩ := h
    exact RpL.cons h1 (RpL.set r n h2)
theorem RpL.reverse {G : Gm} {H : Hp} : ∀ {ds : List PyData} {xs : List V}, RpL G H ds xs → RpL G H ds.reverse xs.reverse
  | [], xs, h => by simp only [RpL] at h; subst h; simp [RpL]
  | d :: ds, xs, h => by
    simp only [RpL] at h
    obtain ⟨v, vs, rfl, h1, h2⟩ := h
    rw [List.reverse_cons, List.reverse_cons]
    exact RpL.append (RpL.reverse h2) (RpL.cons h1 RpL.nil)

/-! the frozen heap within the heap -/
def isD : HO → Prop
  | .dK _ => True
  | _ => False
def Sub (Hf H : Hp) : Prop := ∀ a o, Hf a = some o → H a = some o ∨ (isD o ∧ ∃ ob, H a = some (.frz ob o))
theorem Sub.refl (H : Hp) : Sub H H := fun _ _ h => Or.inl h
theorem Sub.has {Hf H : Hp} (s : Sub Hf H) {a : Addr} {o : HO} (h : Hf a = some o) : ∃ u, H a = some u := by
  rcases s a o h with h | ⟨_, ob, h⟩ <;> exact ⟨_, h⟩
theorem Sub.no {Hf H : Hp} (s : Sub Hf H) {a : Addr} (h : H a = none) : Hf a = none := by
  cases e : Hf a with
  | none => rfl
  | some o => obtain ⟨u, hu⟩ := s.has e; rw [h] at hu; cases hu
theorem Sub.l {K : PySem.W.Frag} {Hf H : Hp} {a : Addr} {xs : List V} (s : Sub Hf H) (h : SqL K Hf a xs) : SqL K H a xs := by
  rcases h with (h | ⟨o, h⟩) | h
  · rcases s a _ h with h | ⟨q, _⟩
    · exact .inl (.inl h)
    · exact q.elim
  · rcases s a _ h with h | ⟨q, _⟩
    · exact .inl (.inr ⟨o, h⟩)
    · exact q.elim
  · exact .inr h
theorem Sub.t {K : PySem.W.Frag} {Hf H : Hp} {a : Addr} {xs : List V} (s : Sub Hf H) (h : SqT K Hf a xs) : SqT K H a xs := by
  rcases h with (h | ⟨o, h⟩) | h
  · rcases s a _ h with h | ⟨q, _⟩
    · exact .inl (.inl h)
    · exact q.elim
  · rcases s a _ h with h | ⟨q, _⟩
    · exact .inl (.inr ⟨o, h⟩)
    · exact q.elim
  · exact .inr h
theorem Sub.d {Hf H : Hp} {a : Addr} {ks : List (Key × V)} (s : Sub Hf H) (h : Hf a = some (.dK ks)) : Rd H a (.dK ks) := by
  rcases s a _ h with h | ⟨_, ob, h⟩
  · exact .inl h
  · exact .inr ⟨ob, h⟩
/-- what is locked stays locked -/
def Lk (H H' : Hp) : Prop := ∀ p ob o, H p = some (.frz ob o) → H' p = some (.frz ob o)
theorem Lk.refl (H : Hp) : Lk H H := fun _ _ _ h => h
theorem Lk.trans {H H1 H2 : Hp} (a : Lk H H1) (b : Lk H1 H2) : Lk H H2 := fun p ob o h => b p ob o (a p ob o h)
theorem Lk.new {H : Hp} {p : Addr} {o : HO} (h : H p = none) : Lk H (upd H p o) := fun a ob u e => by rw [upd_ne (ne_of_none e h)]; exact e
theorem Lk.put {H : Hp} {p : Addr} {o u : HO} (h : H p = some u) (hn : ∀ a b, u ≠ .frz a b) : Lk H (upd H p o) := fun a ob v e => by
  rw [upd_ne (fun z => by subst z; rw [h] at e; cases e; exact hn _ _ rfl)]; exact e
/-- growth: what is frozen stays, what is not frozen is untouched -/
structure Gr (Hf H Hf' H' : Hp) : Prop where
  fx : Ex Hf Hf'
  un : ∀ p o, H p = some o → Hf p = none → Hf' p = none ∧ H' p = some o
  sub : Sub Hf' H'
  lk : Lk H H'
theorem Gr.refl {Hf H : Hp} (s : Sub Hf H) : Gr Hf H Hf H := ⟨Ex.refl _, fun _ _ h h' => ⟨h', h⟩, s, Lk.refl _⟩
theorem Gr.trans {Hf H Hf1 H1 Hf2 H2 : Hp} (a : Gr Hf H Hf1 H1) (b : Gr Hf1 H1 Hf2 H2) : Gr Hf H Hf2 H2 :=
  ⟨a.fx.trans b.fx, fun p o h h' => let ⟨q1, q2⟩ := a.un p o h h'; b.un p o q2 q1, b.sub, a.lk.trans b.lk⟩
/-- fresh later is fresh before -/
theorem Gr.back {Hf H Hf1 H1 : Hp} (a : Gr Hf H Hf1 H1) (s : Sub Hf H) {p : Addr} (h : H1 p = none) : H p = none := by
  cases e : H p with
  | none => rfl
  | some o =>
    cases f : Hf p with
    | none => rw [(a.un p o e f).2] at h; cases h
    | some u =>
      obtain ⟨w, hw⟩ := a.sub.has (a.fx _ _ f)
      rw [h] at hw; cases hw
/-- a new frozen object -/
theorem Gr.newF {Hf H : Hp} {p : Addr} {o : HO} (s : Sub Hf H) (h : H p = none) : Gr Hf H (upd Hf p o) (upd H p o) where
  fx := Ex.new (s.no h)
  un := fun q u hq hn => by
    have ne := ne_of_none hq h
    rw [upd_ne ne, upd_ne ne]; exact ⟨hn, hq⟩
  sub := fun a u e => by
    by_cases ha : a = p
    · subst ha; rw [upd_same] at e ⊢; exact .inl e
    · rw [upd_ne ha] at e ⊢; exact s a u e
  lk := Lk.new h
/-- a new object that is not frozen -/
theorem Gr.newO {Hf H : Hp} {p : Addr} {o : HO} (s : Sub Hf H) (h : H p = none) : Gr Hf H Hf (upd H p o) where
  fx := Ex.refl _
  un := fun q u hq hn => by rw [upd_ne (ne_of_none hq h)]; exact ⟨hn, hq⟩
  sub := fun a u e => by
    have hf := s.no h
    rw [upd_ne (ne_of_none e hf)]; exact s a u e
  lk := Lk.new h
/-- an object that is there becomes frozen: from an earlier place where it was not -/
theorem Gr.frz {Hf0 H0 Hf H : Hp} {p : Addr} {o : HO} (a : Gr Hf0 H0 Hf H) (h0 : H0 p = none) (h : H p = some o) (hf : Hf p = none) : Gr Hf0 H0 (upd Hf p o) H where
  fx := a.fx.trans (Ex.new hf)
  un := fun q u hq hn => by
    have ne := ne_of_none hq h0
    rw [upd_ne ne]; exact a.un q u hq hn
  sub := fun b u e => by
    by_cases hb : b = p
    · subst hb; rw [upd_same] at e; cases e; exact .inl h
    · rw [upd_ne hb] at e; exact a.sub b u e
  lk := a.lk
/-- a frozen dict is locked -/
theorem Gr.lock {Hf H : Hp} {p : Addr} {ob : Obj} {ks : List (Key × V)} (s : Sub Hf H) (hf : Hf p = some (.dK ks)) (h : H p = some (.dK ks)) : Gr Hf H Hf (upd H p (.frz ob (.dK ks))) where
  fx := Ex.refl _
  un := fun q u hq hn => by
    have ne : q ≠ p := fun z => by subst z; rw [hf] at hn; cases hn
    rw [upd_ne ne]; exact ⟨hn, hq⟩
  sub := fun b u e => by
    by_cases hb : b = p
    · subst hb; rw [hf] at e; cases e; rw [upd_same]; exact .inr ⟨trivial, ob, rfl⟩
    · rw [upd_ne hb]; exact s b u e
  lk := Lk.put h (fun _ _ z => nomatch z)

/-! what is one's own -/
def OwnAt (G : Gm) (Hf H : Hp) (p : Addr) : PyData → Prop
  | .list ds => ∃ xs, H p = some (.lst xs) ∧ RpL G Hf ds xs
  | .dict kvs => ∃ ks, H p = some (.dK ks) ∧ RpD G Hf kvs ks
  | _ => False
theorem OwnAt.mono {G : Gm} {Hf H Hf' H' : Hp} {p : Addr} {d : PyData} (g : Gr Hf H Hf' H') (hf : Hf p = none) (h : OwnAt G Hf H p d) : OwnAt G Hf' H' p d ∧ Hf' p = none := by
  cases d with
  | list ds => obtain ⟨xs, h1, h2⟩ := h; exact ⟨⟨xs, (g.un _ _ h1 hf).2, h2.mono g.fx⟩, (g.un _ _ h1 hf).1⟩
  | dict ds => obtain ⟨xs, h1, h2⟩ := h; exact ⟨⟨xs, (g.un _ _ h1 hf).2, h2.mono g.fx⟩, (g.un _ _ h1 hf).1⟩
  | _ => exact h.elim
/-- an own thing, frozen -/
theorem OwnAt.frz {G : Gm} {Hf H : Hp} {p : Addr} {d : PyData} (hf : Hf p = none) (h : OwnAt G Hf H p d) : ∃ o, H p = some o ∧ Rp G (upd Hf p o) d (.ref p) := by
  cases d with
  | list ds => obtain ⟨xs, h1, h2⟩ := h; exact ⟨_, h1, by simp only [Rp]; exact ⟨p, xs, rfl, upd_same, h2.mono (Ex.new hf)⟩⟩
  | dict ds => obtain ⟨xs, h1, h2⟩ := h; exact ⟨_, h1, by simp only [Rp]; exact .inl ⟨p, xs, rfl, upd_same, h2.mono (Ex.new hf)⟩⟩
  | _ => exact h.elim
/-- a value that can be looked at -/
def Vw (G : Gm) (Hf H : Hp) (d : PyData) (v : V) : Prop := Rp G Hf d v ∨ ∃ p, v = .ref p ∧ Hf p = none ∧ OwnAt G Hf H p d
theorem Vw.mono {G : Gm} {Hf H Hf' H' : Hp} {d : PyData} {v : V} (g : Gr Hf H Hf' H') (h : Vw G Hf H d v) : Vw G Hf' H' d v := by
  rcases h with h | ⟨p, rfl, hf, h⟩
  · exact .inl (h.mono g.fx)
  · obtain ⟨a, b⟩ := h.mono g hf
    exact .inr ⟨p, rfl, b, a⟩
inductive Kd | fz | nw | bw
  deriving DecidableEq
def RpK (G : Gm) (k : Kd) (Hf H0 H : Hp) (d : PyData) (v : V) : Prop :=
  match k with
  | .fz => Rp G Hf d v
  | .nw => ∃ p, v = .ref p ∧ H0 p = none ∧ Hf p = none ∧ OwnAt G Hf H p d
  | .bw => ∃ p, v = .ref p ∧ Hf p = none ∧ OwnAt G Hf H p d
theorem RpK.vw {G : Gm} {k : Kd} {Hf H0 H : Hp} {d : PyData} {v : V} (h : RpK G k Hf H0 H d v) : Vw G Hf H d v := by
  cases k with
  | fz => exact .inl h
  | nw => obtain ⟨p, e, _, a, b⟩ := h; exact .inr ⟨p, e, a, b⟩
  | bw => obtain ⟨p, e, a, b⟩ := h; exact .inr ⟨p, e, a, b⟩
theorem RpK.early {G : Gm} {k : Kd} {Hf H0 H1 H : Hp} {d : PyData} {v : V} (hb : ∀ p, H1 p = none → H0 p = none) (h : RpK G k Hf H1 H d v) : RpK G k Hf H0 H d v := by
  cases k with
  | fz => exact h
  | nw => obtain ⟨p, e, n, a, b⟩ := h; exact ⟨p, e, hb p n, a, b⟩
  | bw => exact h
theorem vw_none {G : Gm} {Hf H : Hp} {v : V} (h : Vw G Hf H .none v) : v = .non := by
  rcases h with h | ⟨p, _, _, h⟩
  · simpa only [Rp] using h
  · exact h.elim
theorem vw_bl {G : Gm} {Hf H : Hp} {v : V} {b : Bool} (h : Vw G Hf H (.bool b) v) : v = .bl b := by
  rcases h with h | ⟨p, _, _, h⟩
  · simpa only [Rp] using h
  · exact h.elim
theorem vw_int {G : Gm} {Hf H : Hp} {v : V} {i : Int} (h : Vw G Hf H (.int i) v) : v = .int i := by
  rcases h with h | ⟨p, _, _, h⟩
  · simpa only [Rp] using h
  · exact h.elim
theorem vw_str {G : Gm} {Hf H : Hp} {v : V} {i : Str} (h : Vw G Hf H (.str i) v) : v = .str i := by
  rcases h with h | ⟨p, _, _, h⟩
  · simpa only [Rp] using h
  · exact h.elim
theorem Sub.lst {Hf H : Hp} {a : Addr} {xs : List V} (s : Sub Hf H) (h : Hf a = some (.lst xs)) : H a = some (.lst xs) := by
  rcases s a _ h with h | ⟨q, _⟩
  · exact h
  · exact q.elim
theorem vw_list {G : Gm} {Hf H : Hp} {v : V} {ds : List PyData} (s : Sub Hf H) (h : Vw G Hf H (.list ds) v) : ∃ p xs, v = .ref p ∧ H p = some (.lst xs) ∧ RpL G Hf ds xs := by
  rcases h with h | ⟨p, rfl, _, h⟩
  · simp only [Rp] at h
    obtain ⟨p, xs, rfl, h1, h2⟩ := h
    exact ⟨p, xs, rfl, s.lst h1, h2⟩
  · obtain ⟨xs, h1, h2⟩ := h
    exact ⟨p, xs, rfl, h1, h2⟩
theorem vw_tuple {G : Gm} {Hf H : Hp} {v : V} {ds : List PyData} (s : Sub Hf H) (h : Vw G Hf H (.tuple ds) v) : ∃ p xs, v = .ref p ∧ SqT G.K H p xs ∧ RpL G Hf ds xs := by
  rcases h with h | ⟨p, rfl, _, h⟩
  · simp only [Rp] at h
    obtain ⟨p, xs, rfl, h1, h2⟩ := h
    exact ⟨p, xs, rfl, s.t h1, h2⟩
  · exact h.elim
theorem vw_dict {G : Gm} {Hf H : Hp} {v : V} {ds : List (PyData × PyData)} (s : Sub Hf H) (h : Vw G Hf H (.dict ds) v) (hn : realD ds = true) : ∃ p ks, v = .ref p ∧ Rd H p (.dK ks) ∧ RpD G Hf ds ks := by
  rcases h with h | ⟨p, rfl, _, h⟩
  · simp only [Rp] at h
    rcases h with ⟨p, xs, rfl, h1, h2⟩ | ⟨x, a, e, _⟩ | ⟨ns, a, e, _⟩
    · exact ⟨p, xs, rfl, s.d h1, h2⟩
    · subst e; cases hn
    · subst e; cases hn
  · obtain ⟨xs, h1, h2⟩ := h
    exact ⟨p, xs, rfl, .inl h1, h2⟩
/-! slots -/
abbrev Rho := List (Option (Bool × PyData))
structure Sl (G : Gm) (Hf H : Hp) (σ : L2.St) (ρ : Rho) : Prop where
  sub : Sub Hf H
  len : σ.length = ρ.length
  fz : ∀ (i : Nat) (d : PyData), ρ[i]? = some (some (false, d)) → ∃ v, σ[i]? = some (some v) ∧ Rp G Hf d v
  ow : ∀ (i : Nat) (d : PyData), ρ[i]? = some (some (true, d)) → ∃ p, σ[i]? = some (some (.ref p)) ∧ Hf p = none ∧ OwnAt G Hf H p d
  inj : ∀ (i j : Nat) (d e : PyData) (p : Addr), ρ[i]? = some (some (true, d)) → ρ[j]? = some (some (true, e)) → σ[i]? = some (some (.ref p)) → σ[j]? = some (some (.ref p)) → i = j
theorem Sl.mono {G : Gm} {Hf H Hf' H' : Hp} {σ : L2.St} {ρ : Rho} (S : Sl G Hf H σ ρ) (g : Gr Hf H Hf' H') : Sl G Hf' H' σ ρ where
  sub := g.sub
  len := S.len
  fz := fun i d e => let ⟨v, h1, h2⟩ := S.fz i d e; ⟨v, h1, h2.mono g.fx⟩
  ow := fun i d e => let ⟨p, h1, h2, h3⟩ := S.ow i d e; let ⟨a, b⟩ := h3.mono g h2; ⟨p, h1, b, a⟩
  inj := S.inj
/-! readings -/
/-- what an expression comes to -/
def tX (G : Gm) (f : Rho → Option (Kd × PyData)) : TE := fun σ H Q => ∃ Hf ρ k d, Sl G Hf H σ ρ ∧ f ρ = some (k, d) ∧ ∀ v Hf' H', Gr Hf H Hf' H' → RpK G k Hf' H H' d v → Q v H'
def tT (G : Gm) (f : Rho → Option Bool) : TT := fun σ H Q => ∃ Hf ρ b, Sl G Hf H σ ρ ∧ f ρ = some b ∧ ∀ Hf' H', Gr Hf H Hf' H' → Q b H'
/-- arguments, looked at -/
def VwL (G : Gm) (Hf H : Hp) : List PyData → List V → Prop
  | [], vs => vs = []
  | d :: ds, vs => ∃ v r, vs = v :: r ∧ Vw G Hf H d v ∧ VwL G Hf H ds r
theorem VwL.mono {G : Gm} {Hf H Hf' H' : Hp} (g : Gr Hf H Hf' H') : ∀ {ds : List PyData} {vs : List V}, VwL G Hf H ds vs → VwL G Hf' H' ds vs
  | [], vs, h => h
  | d :: ds, vs, h => let ⟨v, r, e, h1, h2⟩ := h; ⟨v, r, e, h1.mono g, VwL.mono g h2⟩
theorem RpL.vw {G : Gm} {Hf H : Hp} : ∀ {ds : List PyData} {vs : List V}, RpL G Hf ds vs → VwL G Hf H ds vs
  | [], vs, h => by simp only [RpL] at h; exact h
  | d :: ds, vs, h => by
    simp only [RpL] at h
    obtain ⟨v, r, rfl, h1, h2⟩ := h
    exact ⟨v, r, rfl, .inl h1, RpL.vw h2⟩
def tXs (G : Gm) (f : Rho → Option (List PyData)) : TA := fun σ H Q => ∃ Hf ρ ds, Sl G Hf H σ ρ ∧ f ρ = some ds ∧ ∀ vs Hf' H', Gr Hf H Hf' H' → VwL G Hf' H' ds vs → Q vs H'
/-- arguments, kept -/
def tFs (G : Gm) (f : Rho → Option (List PyData)) : TA := fun σ H Q => ∃ Hf ρ ds, Sl G Hf H σ ρ ∧ f ρ = some ds ∧ ∀ vs Hf' H', Gr Hf H Hf' H' → RpL G Hf' ds vs → Q vs H'
theorem PE.weak {X : Cx} {e : Expr} {t t' : TE} (h : PE X e t) (w : ∀ σ H Q, t' σ H Q → t σ H Q) : PE X e t' := ⟨fun pins s σ H Q I q => h.run pins s σ H Q I (w σ H Q q)⟩
theorem PT.weak {X : Cx} {e : Expr} {t t' : TT} (h : PT X e t) (w : ∀ σ H Q, t' σ H Q → t σ H Q) : PT X e t' := ⟨fun pins s σ H Q I q => h.run pins s σ H Q I (w σ H Q q)⟩
theorem PA.weak {X : Cx} {e : List Expr} {t t' : TA} (h : PA X e t) (w : ∀ σ H Q, t' σ H Q → t σ H Q) : PA X e t' := ⟨fun pos pins s σ H Q I q => h.run pos pins s σ H Q I (w σ H Q q)⟩
theorem PS.weak {X : Cx} {e : Stmt} {t t' : TS} (h : PS X e t) (w : ∀ D σ H, t' D σ H → t D σ H) : PS X e t' := ⟨fun pins s σ H D I q => h.run pins s σ H D I (w D σ H q)⟩
theorem PI.weak {X : Cx} {a b : Expr} {t t' : TI} (h : PI X a b t) (w : ∀ σ H R, t' σ H R → t σ H R) : PI X a b t' := ⟨fun pins s σ H R I q => h.run pins s σ H R I (w σ H R q)⟩
/-- a value that is kept: it is frozen now -/
theorem RpK.keep {G : Gm} {k : Kd} {Hf0 H0 Hf H : Hp} {d : PyData} {v : V} (g : Gr Hf0 H0 Hf H) (h : RpK G k Hf H0 H d v) (hk : k ≠ .bw) : ∃ Hf', Gr Hf0 H0 Hf' H ∧ Ex Hf Hf' ∧ Rp G Hf' d v := by
  cases k with
  | fz => exact ⟨Hf, g, Ex.refl _, h⟩
  | nw =>
    obtain ⟨p, rfl, n, a, b⟩ := h
    obtain ⟨o, h1, h2⟩ := b.frz a
    exact ⟨_, g.frz n h1 a, Ex.new a, h2⟩
  | bw => exact absurd rfl hk
/-- an expression whose value is kept -/
theorem tX_kz {G : Gm} {f : Rho → Option (Kd × PyData)} {σ : L2.St} {H : Hp} {Q : VK} {Hf : Hp} {ρ : Rho} {d : PyData} (S : Sl G Hf H σ ρ) (e : (match f ρ with | some (.bw, _) => none | some (_, d) => some d | none => none) = some d)
    (h : ∀ v Hf' H', Gr Hf H Hf' H' → Rp G Hf' d v → Q v H') : tX G f σ H Q := by
  cases hf : f ρ with
  | none => rw [hf] at e; cases e
  | some x =>
    obtain ⟨k, d'⟩ := x
    have hd : k ≠ .bw ∧ d' = d := by
      rw [hf] at e
      cases k <;> first | (cases e; exact ⟨by decide, rfl⟩) | cases e
    obtain ⟨hk, rfl⟩ := hd
    refine ⟨Hf, ρ, k, d', S, hf, fun v Hf' H' g r => ?_⟩
    obtain ⟨Hf2, g2, _, r2⟩ := r.keep g hk
    exact h v Hf2 H' g2 r2
end Bw

namespace Bw
open PySem PySem.Spec PyProof.Rows L2
/-! the language -/
inductive BinO | add | sub | mul | fdiv | mod | pow
  deriving DecidableEq
inductive CmpO | eq | ne | lt | le | gt | ge | isin | notin
  deriving DecidableEq
inductive Bi | len | abs | int | sum | min | max | any | all | sorted | list | tuple
  deriving DecidableEq
/-- targets -/
inductive Tg
  | nm (i : Nat)
  | nil | cons (a b : Tg)      -- a tuple's targets, as a chain
  | tp (n : Nat) (ts : Tg)
mutual
inductive E
  | non | bl (b : Bool) | int (i : Int) | str (z : Str)
  | var (i : Nat)
  | glob (x : Str)
  | bin (o : BinO) (a b : E)
  | neg (a : E)
  | cmp (o : CmpO) (a b : E)
  | isN (a : E) | notN (a : E)
  | chain (o o' : CmpO) (a b c : E)
  | and_ (es : Es) | or_ (es : Es) | not_ (a : E)
  | ite (c a b : E)
  | tup (es : Es) | lst (es : Es)
  | idx (a b : E)
  | sl (a lo hi : E)           -- no: a part left out
  | rev (a : E)
  | no
  | sset (a : E)               -- sorted(set(a)), a list of ints
  | rng (t : Bool) (a b : E)   -- list(range(a, b)), tuple(range(a, b)); a no: range(b)
  | call (f : Str) (es : Es)
  | callv (i : Nat) (es : Es)
  | blt (f : Bi) (es : Es)
  | isi (a : E) (ty : String)
  | dis (es : Es)
  | dget (d k x : E)
  | comp (elt : E) (tg : Tg) (it : Wi) (cond : E) (own : List (Str × Nat))
  | dcomp (k v : E) (tg : Tg) (it : Wi) (cond : E) (own : List (Str × Nat))
inductive Es
  | nil | cons (e : E) (es : Es)
inductive Wi
  | over (e : E) | range1 (a : E) | range2 (a b : E) | enum (a : E) | zip2 (a b : E) | zip3 (a b c : E)
end
inductive Sm
  | frz (is : List Nat)        -- stands for no text: these are not written any more
  | app (i : Nat) (e : E) | ext (i : Nat) (e : E) | drop (e : E)
  | set (i : Nat) (e : E) | setT (t : Tg) (e : E) | par (i j : Nat) (a b : E)
  | aug (i : Nat) (o : BinO) (e : E)
  | put (i : Nat) (k v : E) | augPut (i : Nat) (k : E) (o : BinO) (v : E)
  | ite (c : E) (a b : Sm)
  | for_ (t : Tg) (it : Wi) (b : Sm)
  | while_ (c : E) (b : Sm)
  | ret (e : E) | retN | pass | brk | cont | never
  | nil | cons (a b : Sm)

/-! data -/
/-- flat data -/
def flatD : PyData → Bool
  | .none => true | .bool _ => true | .int _ => true | .str _ => true | _ => false
def smallN (n : Nat) : Bool := decide (n ≤ 100000)
def dBin : BinO → PyData → PyData → Option (Kd × PyData)
  | .add, .int i, .int j => some (.fz, .int (i + j))
  | .add, .tuple xs, .tuple ys => if xs.length + ys.length ≤ 100000 then some (.fz, .tuple (xs ++ ys)) else none
  | .add, .list xs, .list ys => if xs.length + ys.length ≤ 100000 then some (.nw, .list (xs ++ ys)) else none
  | .sub, .int i, .int j => some (.fz, .int (i - j))
  | .mul, .int i, .int j => if i.natAbs.log2 + j.natAbs.log2 < 1000000 then some (.fz, .int (i * j)) else none
  | .mul, .tuple xs, .int k => if 2 ≤ k ∧ k ≤ 1000 ∧ xs.length ≤ 1000 ∧ xs ≠ [] then some (.fz, .tuple (List.replicate k.toNat xs).flatten) else none
  | .mul, .list xs, .int k => if -1000 ≤ k ∧ k ≤ 1000 ∧ xs.length ≤ 100 then some (.nw, .list (List.replicate k.toNat xs).flatten) else none
  | .fdiv, .int i, .int j => if 0 < j ∧ j.natAbs.log2 < 9000 then some (.fz, .int (i / j)) else none
  | .mod, .int i, .int j => if 0 < j then some (.fz, .int (i % j)) else none
  | .pow, .int i, .int j => if 0 ≤ j ∧ j ≤ 1000 ∧ i.natAbs < 18446744073709551616 then some (.fz, .int (i ^ j.toNat)) else none
  | _, _, _ => none
def isScal : PyData → Bool
  | .none => true | .bool _ => true | .int _ => true | .str _ => true | _ => false
/-- the key of a dict -/
def keyD : PyData → Option Key
  | .int i => some (.inl i)
  | .str x => some (.inr x)
  | _ => none
def lookD (kvs : List (PyData × PyData)) (k : PyData) : Option PyData := (kvs.find? fun p => PyData.eqv p.1 k).map (·.2)
def putD (kvs : List (PyData × PyData)) (k v : PyData) : List (PyData × PyData) :=
  if (kvs.any fun p => PyData.eqv p.1 k) = true then kvs.map fun p => if PyData.eqv p.1 k = true then (p.1, v) else p else kvs ++ [(k, v)]
/-- is it strictly a key (an int or a text) -/
def isKey (d : PyData) : Bool := (keyD d).isSome
def noneB : PyData → Bool
  | .none => true
  | _ => false
mutual
/-- no dict within -/
def nd : PyData → Bool
  | .dict _ => false
  | .list xs => ndL xs
  | .tuple xs => ndL xs
  | _ => true
def ndL : List PyData → Bool
  | [] => true
  | x :: xs => nd x && ndL xs
end
mutual
theorem nd_lay : ∀ d : PyData, d.canLay0 = true → nd d = true
  | .none, _ => by simp [nd]
  | .bool _, _ => by simp [nd]
  | .int _, _ => by simp [nd]
  | .str _, _ => by simp [nd]
  | .dict _, h => by simp [PyData.canLay0] at h
  | .list xs, h => by rw [nd]; exact ndL_lay xs (by simpa [PyData.canLay0] using h)
  | .tuple xs, h => by rw [nd]; exact ndL_lay xs (by simpa [PyData.canLay0] using h)
theorem ndL_lay : ∀ xs : List PyData, PyData.canLayAll0 xs = true → ndL xs = true
  | [], _ => by simp [ndL]
  | x :: xs, h => by
    rw [PyData.canLayAll0, Bool.and_eq_true] at h
    rw [ndL, nd_lay x h.1, ndL_lay xs h.2]; rfl
end
mutual
theorem nd_alike : ∀ d : PyData, PySem.W.alike d d = true → nd d = true
  | .none, _ => by simp [nd]
  | .bool _, _ => by simp [nd]
  | .int _, _ => by simp [nd]
  | .str _, _ => by simp [nd]
  | .dict _, h => by simp [PySem.W.alike] at h
  | .list xs, h => by rw [nd]; exact ndL_alike xs (by simpa [PySem.W.alike] using h)
  | .tuple xs, h => by rw [nd]; exact ndL_alike xs (by simpa [PySem.W.alike] using h)
theorem ndL_alike : ∀ xs : List PyData, PySem.W.alikeAll xs xs = true → ndL xs = true
  | [], _ => by simp [ndL]
  | x :: xs, h => by
    rw [PySem.W.alikeAll, Bool.and_eq_true] at h
    rw [ndL, nd_alike x h.1, ndL_alike xs h.2]; rfl
end
def cEq (d e : PyData) : Option Bool := if SeqAt.shaped d = true ∧ SeqAt.shaped e = true then some (PyData.eqv d e) else none
def cNe (d e : PyData) : Option Bool := if SeqAt.shaped d = true ∧ SeqAt.shaped e = true then some (!PyData.eqv d e) else none
def cLt : PyData → PyData → Option Bool
  | .int i, .int j => some (decide (i < j))
  | d, e => if PySem.W.alike d d = true ∧ PySem.W.alike e e = true ∧ PySem.W.alike d e = true ∧ d.depth ≤ 60 ∧ noneB d = false then some (PySem.W.dataLt d e) else none
def cLe : PyData → PyData → Option Bool
  | .int i, .int j => some (decide (i ≤ j))
  | _, _ => none
def cGt : PyData → PyData → Option Bool
  | .int i, .int j => some (decide (j < i))
  | _, _ => none
def cGe : PyData → PyData → Option Bool
  | .int i, .int j => some (decide (j ≤ i))
  | _, _ => none
def cIn (d : PyData) : PyData → Option Bool
  | .list xs => if flatD d = true ∧ xs.all flatD = true then some (xs.any fun x => PyData.eqv x d) else none
  | .tuple xs => if flatD d = true ∧ xs.all flatD = true then some (xs.any fun x => PyData.eqv x d) else none
  | .dict kvs => if isKey d = true ∧ realD kvs = true then some (lookD kvs d).isSome else none
  | .str y => match d with
    | .str x => match x.cps.toList with
      | [c] => some (decide (c ∈ y.cps.toList))
      | _ => none
    | _ => none
  | _ => none
def cNotIn (d : PyData) : PyData → Option Bool
  | .list xs => if flatD d = true ∧ xs.all flatD = true then some (!(xs.any fun x => PyData.eqv x d)) else none
  | .tuple xs => if flatD d = true ∧ xs.all flatD = true then some (!(xs.any fun x => PyData.eqv x d)) else none
  | .dict kvs => if isKey d = true ∧ realD kvs = true then some (!(lookD kvs d).isSome) else none
  | _ => none
def dCmp : CmpO → PyData → PyData → Option Bool
  | .eq => cEq | .ne => cNe | .lt => cLt | .le => cLe | .gt => cGt | .ge => cGe | .isin => cIn | .notin => cNotIn
def dIdx : PyData → PyData → Option PyData
  | .list xs, .int i => atI xs i
  | .tuple xs, .int i => atI xs i
  | .dict kvs, k => if isKey k = true ∧ realD kvs = true then lookD kvs k else none
  | _, _ => none
def cutD (xs : List PyData) (lo hi : Option Int) : List PyData := (xs.drop (HT.sIx xs.length 0 lo)).take (HT.sIx xs.length xs.length hi - HT.sIx xs.length 0 lo)
def dSl (d : PyData) (lo hi : Option Int) : Option (Kd × PyData) :=
  match d with
  | .list xs => some (.nw, .list (cutD xs lo hi))
  | .tuple xs => some (.fz, .tuple (cutD xs lo hi))
  | .dict [(.bool true, .list xs)] => some (.nw, .list (cutD xs lo hi))
  | _ => none
def dRev : PyData → Option (Kd × PyData)
  | .list xs => some (.nw, .list xs.reverse)
  | .tuple xs => some (.fz, .tuple xs.reverse)
  | _ => none
def intsD : List PyData → Option (List Int)
  | [] => some []
  | .int i :: r => (intsD r).map (i :: ·)
  | _ :: _ => none
def boolsD : List PyData → Option (List Bool)
  | [] => some []
  | .bool i :: r => (boolsD r).map (i :: ·)
  | _ :: _ => none
/-- what can be compared by < -/
def alikeB (xs : List PyData) : Bool := xs.all fun x => xs.all fun y => PySem.W.alike x y
def isTup1 : PyData → Bool
  | .tuple (_ :: _) => true
  | _ => false
def noTup : PyData → Bool
  | .tuple _ => false | .none => false | _ => true
def sortB (xs : List PyData) : Bool := alikeB xs && (xs.all isTup1 || xs.all noTup) && xs.all (fun x => decide (x.depth ≤ 60)) && decide (xs.length ≤ 100000)
def sortD (xs : List PyData) : List PyData := xs.mergeSort (PySem.W.dataLe false id)
def seqD : PyData → Option (List PyData)
  | .list xs => some xs
  | .tuple xs => some xs
  | _ => none
def minL : List PyData → Option PyData
  | x :: xs => if alikeB (x :: xs) = true ∧ PyData.depthAll (x :: xs) ≤ 60 ∧ (x :: xs).all (fun d => !noneB d) = true then some (PySem.W.minD x xs) else none
  | [] => none
def maxL : List PyData → Option PyData
  | x :: xs => if alikeB (x :: xs) = true ∧ PyData.depthAll (x :: xs) ≤ 60 ∧ (x :: xs).all (fun d => !noneB d) = true then some (PySem.W.maxD x xs) else none
  | [] => none
/-- sorted(set(ns)) -/
def ssetI (ns : List Int) : List Int := (ns.eraseDups).mergeSort (fun a b => decide (a ≤ b))
def rangeD (a b : Int) : List PyData := (List.range (b - a).toNat).map fun i => .int (a + (i : Nat))
/-- the built-ins, by what they are called with -/
def bLen : List PyData → Option (Kd × PyData)
  | [.list xs] => some (.fz, .int xs.length)
  | [.tuple xs] => some (.fz, .int xs.length)
  | [.str x] => if x.length ≤ 100000 then some (.fz, .int x.length) else none
  | _ => none
def bAbs : List PyData → Option (Kd × PyData)
  | [.int i] => some (.fz, .int (if i < 0 then -i else i))
  | _ => none
def bInt : List PyData → Option (Kd × PyData)
  | [.int i] => some (.fz, .int i)
  | _ => none
def bSum : List PyData → Option (Kd × PyData)
  | [.list xs] => (intsD xs).map fun ns => (.fz, .int ns.sum)
  | _ => none
def bMin : List PyData → Option (Kd × PyData)
  | [.int i, .int j] => some (.fz, .int (if j < i then j else i))
  | [.list xs] => (minL xs).map fun d => (.fz, d)
  | [.tuple xs] => (minL xs).map fun d => (.fz, d)
  | [.tuple a, .tuple b] => (minL [.tuple a, .tuple b]).map fun d => (.fz, d)
  | _ => none
def bMax : List PyData → Option (Kd × PyData)
  | [.int i, .int j] => some (.fz, .int (if j > i then j else i))
  | [.list xs] => (maxL xs).map fun d => (.fz, d)
  | [.tuple xs] => (maxL xs).map fun d => (.fz, d)
  | _ => none
def bAny : List PyData → Option (Kd × PyData)
  | [.list xs] => (boolsD xs).map fun bs => (.fz, .bool (bs.any id))
  | _ => none
def bAll : List PyData → Option (Kd × PyData)
  | [.list xs] => (boolsD xs).map fun bs => (.fz, .bool (bs.all id))
  | _ => none
def bSorted : List PyData → Option (Kd × PyData)
  | [.list xs] => if sortB xs = true then some (.nw, .list (sortD xs)) else none
  | _ => none
def bList : List PyData → Option (Kd × PyData)
  | [.list xs] => some (.nw, .list xs)
  | [.tuple xs] => some (.nw, .list xs)
  | _ => none
def bTuple : List PyData → Option (Kd × PyData)
  | [.list xs] => some (.fz, .tuple xs)
  | [.tuple xs] => some (.fz, .tuple xs)
  | _ => none
def dBi : Bi → List PyData → Option (Kd × PyData)
  | .len => bLen | .abs => bAbs | .int => bInt | .sum => bSum | .min => bMin | .max => bMax | .any => bAny | .all => bAll | .sorted => bSorted | .list => bList | .tuple => bTuple
def isiD (ty : String) : PyData → Option Bool
  | .int _ => if ty = "int" then some true else if ty = "bool" ∨ ty = "tuple" ∨ ty = "str" then some false else none
  | .bool _ => if ty = "int" ∨ ty = "bool" then some true else none
  | .tuple _ => if ty = "tuple" then some true else none
  | .str _ => if ty = "str" then some true else none
  | _ => none
mutual
def bindT : Tg → PyData → Rho → Option Rho
  | .nm i, d, ρ => if i < ρ.length then some (ρ.set i (some (false, d))) else none
  | .tp n ts, d, ρ => match d with
    | .tuple ds => if ds.length = n then bindL ts ds ρ else none
    | _ => none
  | _, _, _ => none
def bindL : Tg → List PyData → Rho → Option Rho
  | .nil, ds, ρ => match ds with
    | [] => some ρ
    | _ => none
  | .cons a b, ds, ρ => match ds with
    | d :: r => (bindT a d ρ).bind fun ρ' => bindL b r ρ'
    | _ => none
  | _, _, _ => none
end
def wipeR (ρ : Rho) : List Nat → Rho
  | [] => ρ
  | v :: vs => (wipeR ρ vs).set v none
/-- a comprehension's turns -/
def compL (f : PyData → Option (Option PyData)) : List PyData → Option (List PyData)
  | [] => some []
  | x :: r => (f x).bind fun o => (compL f r).bind fun l => match o with
    | none => some l
    | some d => some (d :: l)
def compD (f : PyData → Option (Option (PyData × PyData))) : List (PyData × PyData) → List PyData → Option (List (PyData × PyData))
  | acc, [] => some acc
  | acc, x :: r => (f x).bind fun o => match o with
    | none => compD f acc r
    | some (k, v) => if isKey k = true then compD f (putD acc k v) r else none
/-- what is kept -/
def kz : Option (Kd × PyData) → Option PyData
  | some (.bw, _) => none
  | some (_, d) => some d
  | none => none
def bz : Option (Kd × PyData) → Option Bool
  | some (_, .bool b) => some b
  | _ => none
def oneI : Option (Kd × PyData) → Option Int
  | some (_, .int i) => some i
  | _ => none
def zipD : List PyData → List PyData → List PyData
  | a :: r, b :: s => .tuple [a, b] :: zipD r s
  | _, _ => []
def zipD3 : List PyData → List PyData → List PyData → List PyData
  | a :: r, b :: s, c :: t => .tuple [a, b, c] :: zipD3 r s t
  | _, _, _ => []
def enumD : Nat → List PyData → List PyData
  | n, a :: r => .tuple [.int n, a] :: enumD (n + 1) r
  | _, [] => []
def fewD (xs : List PyData) : Option (List PyData) := if xs.length ≤ 100000 then some xs else none
section
variable (gl : Str → Option PyData) (c : Str → List PyData → Option PyData)
mutual
def ev : E → Rho → Option (Kd × PyData)
  | .non, _ => some (.fz, .none)
  | .bl b, _ => some (.fz, .bool b)
  | .int i, _ => some (.fz, .int i)
  | .str z, _ => some (.fz, .str z)
  | .var i, ρ => match ρ[i]? with
    | some (some (false, d)) => some (.fz, d)
    | some (some (true, d)) => some (.bw, d)
    | _ => none
  | .glob x, _ => (gl x).map fun d => (.fz, d)
  | .bin o a b, ρ => (ev a ρ).bind fun x => (ev b ρ).bind fun y => dBin o x.2 y.2
  | .neg a, ρ => (oneI (ev a ρ)).map fun i => (.fz, .int (-i))
  | .cmp o a b, ρ => (ev a ρ).bind fun x => (ev b ρ).bind fun y => (dCmp o x.2 y.2).map fun r => (.fz, .bool r)
  | .isN a, ρ => (ev a ρ).map fun x => (.fz, .bool (noneB x.2))
  | .notN a, ρ => (ev a ρ).map fun x => (.fz, .bool (!noneB x.2))
  | .chain o o' a b c', ρ => (ev a ρ).bind fun x => (ev b ρ).bind fun y => (dCmp o x.2 y.2).bind fun r =>
      if r = true then (ev c' ρ).bind fun z => (dCmp o' y.2 z.2).map fun r => (.fz, .bool r) else some (.fz, .bool false)
  | .and_ es, ρ => (evAnd es ρ).map fun b => (.fz, .bool b)
  | .or_ es, ρ => (evOr es ρ).map fun b => (.fz, .bool b)
  | .not_ a, ρ => (bz (ev a ρ)).map fun b => (.fz, .bool (!b))
  | .ite t a b, ρ => (bz (ev t ρ)).bind fun r => if r = true then ev a ρ else ev b ρ
  | .tup es, ρ => (evF es ρ).bind fun ds => (fewD ds).map fun ds => (.fz, .tuple ds)
  | .lst es, ρ => (evF es ρ).bind fun ds => (fewD ds).map fun ds => (.nw, .list ds)
  | .idx a b, ρ => (ev a ρ).bind fun x => (ev b ρ).bind fun y => (dIdx x.2 y.2).map fun d => (.fz, d)
  | .sl a lo hi, ρ => (ev a ρ).bind fun x => (evP lo ρ).bind fun l => (evP hi ρ).bind fun h => dSl x.2 l h
  | .rev a, ρ => (ev a ρ).bind fun x => dRev x.2
  | .no, _ => none
  | .sset a, ρ => (ev a ρ).bind fun x => match x.2 with
    | .list xs => (intsD xs).bind fun ns => if ns.length < 64 then some (.nw, .list ((ssetI ns).map PyData.int)) else none
    | _ => none
  | .rng t a b, ρ => (evP a ρ).bind fun lo => (oneI (ev b ρ)).bind fun h =>
      if -100000000 ≤ lo.getD 0 ∧ lo.getD 0 ≤ 100000000 ∧ -100000000 ≤ h ∧ h ≤ 100000000 ∧ h - lo.getD 0 ≤ 100000 then
        some (if t = true then (.fz, .tuple (rangeD (lo.getD 0) h)) else (.nw, .list (rangeD (lo.getD 0) h))) else none
  | .call f es, ρ => (evF es ρ).bind fun ds => (c f ds).map fun d => (.fz, d)
  | .callv i es, ρ => match ρ[i]? with
    | some (some (false, .dict [(.none, .str x)])) => (evF es ρ).bind fun ds => (c x ds).map fun d => (.fz, d)
    | _ => none
  | .blt f es, ρ => (evV es ρ).bind fun ds => dBi f ds
  | .isi a ty, ρ => (ev a ρ).bind fun x => (isiD ty x.2).map fun b => (.fz, .bool b)
  | .dis es, ρ => (evKV es ρ).bind fun kvs => if kvs.length ≤ 15 then some (.nw, .dict (kvs.foldl (fun acc p => putD acc p.1 p.2) [])) else none
  | .dget d k x, ρ => (ev d ρ).bind fun a => (ev k ρ).bind fun y => (kz (ev x ρ)).bind fun z => match a.2 with
    | .dict kvs => if isKey y.2 = true ∧ realD kvs = true then some (.fz, (lookD kvs y.2).getD z) else none
    | _ => none
  | .comp elt tg it cond own, ρ => (evI it ρ).bind fun r => (fewD r.2).bind fun ds =>
      (compL (fun x => (bindT tg x (wipeR ρ (own.map (·.2)))).bind fun ρ' => (evC cond ρ').bind fun t => if t = true then (kz (ev elt ρ')).map some else some none) ds).map fun l => (.nw, .list l)
  | .dcomp k v tg it cond own, ρ => (evI it ρ).bind fun r => (fewD r.2).bind fun ds =>
      (compD (fun x => (bindT tg x (wipeR ρ (own.map (·.2)))).bind fun ρ' => (evC cond ρ').bind fun t => if t = true then (kz (ev k ρ')).bind fun kk => (kz (ev v ρ')).map fun vv => some (kk, vv) else some none) [] ds).map fun l => (.nw, .dict l)
def evP : E → Rho → Option (Option Int)
  | .no, _ => some none
  | e, ρ => (oneI (ev e ρ)).map some
def evC : E → Rho → Option Bool
  | .no, _ => some true
  | e, ρ => bz (ev e ρ)
def evF : Es → Rho → Option (List PyData)
  | .nil, _ => some []
  | .cons e es, ρ => (kz (ev e ρ)).bind fun d => (evF es ρ).map fun ds => d :: ds
def evV : Es → Rho → Option (List PyData)
  | .nil, _ => some []
  | .cons e es, ρ => (ev e ρ).bind fun d => (evV es ρ).map fun ds => d.2 :: ds
def evKV : Es → Rho → Option (List (PyData × PyData))
  | .nil, _ => some []
  | .cons k (.cons v r), ρ => (ev k ρ).bind fun kk => if isKey kk.2 = true then (kz (ev v ρ)).bind fun vv => (evKV r ρ).map fun l => (kk.2, vv) :: l else none
  | .cons _ .nil, _ => none
def evAnd : Es → Rho → Option Bool
  | .nil, _ => none
  | .cons e .nil, ρ => bz (ev e ρ)
  | .cons e es, ρ => (bz (ev e ρ)).bind fun b => if b = true then evAnd es ρ else some false
def evOr : Es → Rho → Option Bool
  | .nil, _ => none
  | .cons e .nil, ρ => bz (ev e ρ)
  | .cons e es, ρ => (bz (ev e ρ)).bind fun b => if b = true then some true else evOr es ρ
def evI : Wi → Rho → Option (Bool × List PyData)
  | .over e, ρ => (ev e ρ).bind fun x => match x.2 with
    | .list ds => some (x.1 == .bw, ds)
    | .tuple ds => some (false, ds)
    | .dict kvs => if realD kvs = true ∧ x.1 ≠ .bw then some (false, kvs.map (·.1)) else none
    | _ => none
  | .range1 a, ρ => (oneI (ev a ρ)).bind fun h => if -100000000 ≤ h ∧ h ≤ 100000000 then some (false, rangeD 0 h) else none
  | .range2 a b, ρ => (oneI (ev a ρ)).bind fun l => (oneI (ev b ρ)).bind fun h => if -100000000 ≤ l ∧ l ≤ 100000000 ∧ -100000000 ≤ h ∧ h ≤ 100000000 then some (false, rangeD l h) else none
  | .enum a, ρ => (ev a ρ).bind fun x => match x.2 with
    | .list ds => some (x.1 == .bw, enumD 0 ds)
    | _ => none
  | .zip2 a b, ρ => (ev a ρ).bind fun x => (ev b ρ).bind fun y => match x.2, y.2 with
    | .list ds, .list es => some (x.1 == .bw || y.1 == .bw, zipD ds es)
    | .tuple ds, .tuple es => some (false, zipD ds es)
    | _, _ => none
  | .zip3 _ _ _, _ => none
end
end
end Bw

namespace Bw
open PySem PySem.Spec PyProof.Rows L2
/-! the operators over data -/
def rB (G : Gm) (f : PyData → PyData → Option (Kd × PyData)) : R2 := fun x y H Q => ∃ Hf d e k r, Sub Hf H ∧ Vw G Hf H d x ∧ Vw G Hf H e y ∧ f d e = some (k, r) ∧ ∀ v Hf' H', Gr Hf H Hf' H' → RpK G k Hf' H H' r v → Q v H'
def rC (G : Gm) (f : List PyData → Option (Kd × PyData)) : List V → Hp → VK → Prop := fun xs H Q => ∃ Hf ds k r, Sub Hf H ∧ VwL G Hf H ds xs ∧ f ds = some (k, r) ∧ ∀ v Hf' H', Gr Hf H Hf' H' → RpK G k Hf' H H' r v → Q v H'
theorem sz5 {n : Nat} (h : n ≤ 100000) : n ≤ sizeLine := Nat.le_trans h (by decide)
theorem rp_tup {G : Gm} {H : Hp} {p : Addr} {xs : List V} {ds : List PyData} (h : H p = some (.tup xs)) (r : RpL G H ds xs) : Rp G H (.tuple ds) (.ref p) := by
  simp only [Rp]; exact ⟨p, xs, rfl, .inl (.inl h), r⟩
theorem rp_int {G : Gm} {H : Hp} {i : Int} : Rp G H (.int i) (.int i) := by simp only [Rp]
theorem rp_bl {G : Gm} {H : Hp} {i : Bool} : Rp G H (.bool i) (.bl i) := by simp only [Rp]
theorem rp_str {G : Gm} {H : Hp} {i : Str} : Rp G H (.str i) (.str i) := by simp only [Rp]
theorem rp_non {G : Gm} {H : Hp} : Rp G H .none .non := by simp only [Rp]
section
variable {G : Gm} {Hf H : Hp} {Q : VK} {r : PyData}
/-- the answer is no object -/
theorem fin_fz {v : V} (s : Sub Hf H) (k : ∀ v Hf' H', Gr Hf H Hf' H' → RpK G .fz Hf' H H' r v → Q v H') (h : Rp G Hf r v) : Q v H := k v Hf H (Gr.refl s) h
theorem fin_vw {v : V} (s : Sub Hf H) (k : ∀ v Hf' H', Gr Hf H Hf' H' → RpK G .fz Hf' H H' r v → Q v H') (h : Rp G Hf r v) : Q v H := k v Hf H (Gr.refl s) h
/-- a new tuple -/
theorem fin_tup {p : Addr} {xs : List V} {ds : List PyData} (s : Sub Hf H) (k : ∀ v Hf' H', Gr Hf H Hf' H' → RpK G .fz Hf' H H' (.tuple ds) v → Q v H') (hr : RpL G Hf ds xs) (hp : H p = none) : Q (.ref p) (upd H p (.tup xs)) :=
  k _ _ _ (Gr.newF s hp) (rp_tup upd_same (hr.mono (Ex.new (s.no hp))))
/-- a new list -/
theorem fin_lst {p : Addr} {xs : List V} {ds : List PyData} (s : Sub Hf H) (k : ∀ v Hf' H', Gr Hf H Hf' H' → RpK G .nw Hf' H H' (.list ds) v → Q v H') (hr : RpL G Hf ds xs) (hp : H p = none) : Q (.ref p) (upd H p (.lst xs)) :=
  k _ _ _ (Gr.newO s hp) ⟨p, rfl, hp, s.no hp, xs, upd_same, hr⟩
end
theorem RpL.rep {G : Gm} {H : Hp} {ds : List PyData} {xs : List V} (h : RpL G H ds xs) : ∀ k : Nat, RpL G H (List.replicate k ds).flatten (List.replicate k xs).flatten
  | 0 => by simp [RpL]
  | k + 1 => by
    rw [List.replicate_succ, List.replicate_succ, List.flatten_cons, List.flatten_cons]
    exact h.append (h.rep k)
theorem RpL.ne_nil {G : Gm} {H : Hp} {ds : List PyData} {xs : List V} (h : RpL G H ds xs) (n : ds ≠ []) : xs ≠ [] := fun e => by
  have := h.length
  rw [e] at this
  exact n (List.eq_nil_of_length_eq_zero this.symm)
def opOf : BinO → Operator
  | .add => .Add | .sub => .Sub | .mul => .Mult | .fdiv => .FloorDiv | .mod => .Mod | .pow => .Pow
section
variable {X : Cx} {G : Gm}
theorem op_bin (hK : G.K = X.K) : ∀ o : BinO, OpR X (binaryOp (opOf o)) (rB G (dBin o)) := by
  intro o pins s σ H x y v u Q I rx ry h
  obtain ⟨Hf, d, e, k, r, hs, vx, vy, hf, hq⟩ := h
  cases o with
  | add =>
    unfold dBin at hf
    split at hf
    all_goals first | (rename_i h1; cases h1; done) | skip
    · cases hf; obtain rfl := vw_int vx; obtain rfl := vw_int vy
      exact op_add pins s σ H _ _ v u Q I rx ry ⟨_, _, rfl, rfl, fin_fz hs hq rp_int⟩
    · split at hf
      · rename_i hl
        cases hf
        obtain ⟨p, xs, rfl, t1, r1⟩ := vw_tuple hs vx
        obtain ⟨q, ys, rfl, t2, r2⟩ := vw_tuple hs vy
        rw [hK] at t1 t2
        refine op_catA pins s σ H _ _ v u Q I rx ry ⟨_, _, xs, ys, rfl, rfl, t1, t2, ?_, fun e => ?_, fun e1 e2 => ?_, fun _ _ p hp => ?_⟩
        · rw [r1.length, r2.length]; exact sz5 hl
        · subst e
          have e1 := r1.length
          have : _ = [] := List.eq_nil_of_length_eq_zero e1.symm
          subst this
          refine fin_fz hs hq ?_
          rw [List.nil_append]
          rcases vy with vy | ⟨_, _, _, z⟩
          · exact vy
          · exact z.elim
        · subst e2
          have e1 := r2.length
          have : _ = [] := List.eq_nil_of_length_eq_zero e1.symm
          subst this
          refine fin_fz hs hq ?_
          rw [List.append_nil]
          rcases vx with vx | ⟨_, _, _, z⟩
          · exact vx
          · exact z.elim
        · exact fin_tup hs hq (r1.append r2) hp
      · cases hf
    · split at hf
      · rename_i hl
        cases hf
        obtain ⟨p, xs, rfl, t1, r1⟩ := vw_list hs vx
        obtain ⟨q, ys, rfl, t2, r2⟩ := vw_list hs vy
        refine op_cat pins s σ H _ _ v u Q I rx ry ⟨_, _, xs, ys, rfl, rfl, t1, t2, ?_, fun p hp => fin_lst hs hq (r1.append r2) hp⟩
        rw [r1.length, r2.length]; exact sz5 hl
      · cases hf
    all_goals cases hf
  | sub =>
    unfold dBin at hf
    split at hf
    all_goals first | (rename_i h1; cases h1; done) | skip
    · cases hf; obtain rfl := vw_int vx; obtain rfl := vw_int vy
      exact op_sub pins s σ H _ _ v u Q I rx ry ⟨_, _, rfl, rfl, fin_fz hs hq rp_int⟩
    all_goals cases hf
  | mul =>
    unfold dBin at hf
    split at hf
    all_goals first | (rename_i h1; cases h1; done) | skip
    · split at hf
      · rename_i hl
        cases hf; obtain rfl := vw_int vx; obtain rfl := vw_int vy
        exact op_mulW pins s σ H _ _ v u Q I rx ry ⟨_, _, rfl, rfl, hl, fin_fz hs hq rp_int⟩
      · cases hf
    · split at hf
      · rename_i hl
        cases hf
        obtain ⟨p, xs, rfl, t1, r1⟩ := vw_tuple hs vx
        obtain rfl := vw_int vy
        rw [hK] at t1
        exact op_repT pins s σ H _ _ v u Q I rx ry ⟨_, _, xs, rfl, rfl, t1, r1.ne_nil hl.2.2.2, hl.1, hl.2.1, by rw [r1.length]; exact hl.2.2.1, fun p hp => fin_tup hs hq (r1.rep _) hp⟩
      · cases hf
    · split at hf
      · rename_i hl
        cases hf
        obtain ⟨p, xs, rfl, t1, r1⟩ := vw_list hs vx
        obtain rfl := vw_int vy
        refine op_rep pins s σ H _ _ v u Q I rx ry ⟨_, _, xs, rfl, rfl, t1, by omega, by omega, ?_, fun p hp => fin_lst hs hq (r1.rep _) hp⟩
        rw [r1.length]
        refine sz5 (Nat.le_trans (Nat.mul_le_mul hl.2.2 (Nat.le_refl _)) ?_)
        omega
      · cases hf
    all_goals cases hf
  | fdiv =>
    unfold dBin at hf
    split at hf
    all_goals first | (rename_i h1; cases h1; done) | skip
    · split at hf
      · rename_i hl
        cases hf; obtain rfl := vw_int vx; obtain rfl := vw_int vy
        exact op_fdivW pins s σ H _ _ v u Q I rx ry ⟨_, _, rfl, rfl, hl, fin_fz hs hq rp_int⟩
      · cases hf
    all_goals cases hf
  | mod =>
    unfold dBin at hf
    split at hf
    all_goals first | (rename_i h1; cases h1; done) | skip
    · split at hf
      · rename_i hl
        cases hf; obtain rfl := vw_int vx; obtain rfl := vw_int vy
        exact op_mod pins s σ H _ _ v u Q I rx ry ⟨_, _, rfl, rfl, hl, fin_fz hs hq rp_int⟩
      · cases hf
    all_goals cases hf
  | pow =>
    unfold dBin at hf
    split at hf
    all_goals first | (rename_i h1; cases h1; done) | skip
    · split at hf
      · rename_i hl
        cases hf; obtain rfl := vw_int vx; obtain rfl := vw_int vy
        exact op_pow pins s σ H _ _ v u Q I rx ry ⟨_, _, rfl, rfl, ⟨hl.1, by omega, by omega⟩, fin_fz hs hq rp_int⟩
      · cases hf
    all_goals cases hf
end
/-! data that hold no dict -/
mutual
theorem rp_dp {G : Gm} {Hf H : Hp} (s : Sub Hf H) : ∀ {d : PyData} {v : V}, nd d = true → Rp G Hf d v → Dp G.K H v d
  | .none, v, _, h => by simp only [Rp] at h; subst h; exact .non
  | .bool b, v, _, h => by simp only [Rp] at h; subst h; exact .bl b
  | .int b, v, _, h => by simp only [Rp] at h; subst h; exact .int b
  | .str b, v, _, h => by simp only [Rp] at h; subst h; exact .str b
  | .list ds, v, n, h => by
    simp only [Rp] at h
    obtain ⟨a, xs, rfl, h1, h2⟩ := h
    exact .lst (.inl (.inl (s.lst h1))) (rp_dpL s (by simpa [nd] using n) h2)
  | .tuple ds, v, n, h => by
    simp only [Rp] at h
    obtain ⟨a, xs, rfl, h1, h2⟩ := h
    exact .tup (s.t h1) (rp_dpL s (by simpa [nd] using n) h2)
  | .dict _, v, n, h => by simp [nd] at n
theorem rp_dpL {G : Gm} {Hf H : Hp} (s : Sub Hf H) : ∀ {ds : List PyData} {vs : List V}, ndL ds = true → RpL G Hf ds vs → DpAll G.K H vs ds
  | [], vs, _, h => by simp only [RpL] at h; subst h; exact .nil
  | d :: ds, vs, n, h => by
    simp only [RpL] at h
    obtain ⟨v, r, rfl, h1, h2⟩ := h
    rw [ndL, Bool.and_eq_true] at n
    exact .cons (rp_dp s n.1 h1) (rp_dpL s n.2 h2)
end
theorem vw_dp {G : Gm} {Hf H : Hp} (s : Sub Hf H) {d : PyData} {v : V} (n : nd d = true) (h : Vw G Hf H d v) : Dp G.K H v d := by
  rcases h with h | ⟨p, rfl, _, h⟩
  · exact rp_dp s n h
  · cases d with
    | list ds => obtain ⟨xs, h1, h2⟩ := h; exact .lst (.inl (.inl h1)) (rp_dpL s (by simpa [nd] using n) h2)
    | dict ds => simp [nd] at n
    | _ => exact h.elim
/-! flat data -/
theorem flat_rp {G : Gm} {H : Hp} {d : PyData} {v : V} (f : flatD d = true) (h : Rp G H d v) : flatV v = true := by
  cases d with
  | none => simp only [Rp] at h; subst h; rfl
  | bool b => simp only [Rp] at h; subst h; rfl
  | int b => simp only [Rp] at h; subst h; rfl
  | str b => simp only [Rp] at h; subst h; rfl
  | _ => cases f
theorem eqV_eqv {G : Gm} {H H' : Hp} {d e : PyData} {v w : V} (fd : flatD d = true) (fe : flatD e = true) (h : Rp G H d v) (h' : Rp G H' e w) : eqV v w = PyData.eqv d e := by
  cases d <;> cases e <;> first | (cases fd; done) | (cases fe; done) | (simp only [Rp] at h h'; subst h; subst h'; simp only [PyData.eqv, eqV])
theorem flat_all {G : Gm} {H : Hp} : ∀ {ds : List PyData} {vs : List V}, ds.all flatD = true → RpL G H ds vs → vs.all flatV = true
  | [], vs, _, h => by simp only [RpL] at h; subst h; rfl
  | d :: ds, vs, f, h => by
    simp only [RpL] at h
    obtain ⟨v, r, rfl, h1, h2⟩ := h
    rw [List.all_cons, Bool.and_eq_true] at f
    rw [List.all_cons, flat_rp f.1 h1, flat_all f.2 h2]; rfl
theorem inV_any {G : Gm} {H H' : Hp} {d : PyData} {x : V} (fd : flatD d = true) (hx : Rp G H' d x) : ∀ {ds : List PyData} {vs : List V}, ds.all flatD = true → RpL G H ds vs → inV x vs = ds.any fun y => PyData.eqv y d
  | [], vs, _, h => by simp only [RpL] at h; subst h; rfl
  | e :: ds, vs, f, h => by
    simp only [RpL] at h
    obtain ⟨v, r, rfl, h1, h2⟩ := h
    rw [List.all_cons, Bool.and_eq_true] at f
    have ih := inV_any fd hx f.2 h2
    unfold inV at ih ⊢
    rw [List.any_cons, List.any_cons, ih, eqV_eqv f.1 fd h1 hx]
theorem vw_flat {G : Gm} {Hf H : Hp} {d : PyData} {v : V} (f : flatD d = true) (h : Vw G Hf H d v) : Rp G Hf d v := by
  rcases h with h | ⟨p, _, _, h⟩
  · exact h
  · cases d <;> first | exact h.elim | cases f
/-! dicts -/
theorem key_rp {G : Gm} {Hf H : Hp} {d : PyData} {v : V} (k : isKey d = true) (h : Vw G Hf H d v) : ∃ kk, keyD d = some kk ∧ kd kk = d ∧ v = kV kk := by
  cases d with
  | int i => exact ⟨.inl i, rfl, rfl, vw_int h⟩
  | str i => exact ⟨.inr i, rfl, rfl, vw_str h⟩
  | _ => cases k
theorem eqv_kd (a b : Key) : PyData.eqv (kd a) (kd b) = decide (a = b) := by
  rcases a with a | a <;> rcases b with b | b <;> simp [kd, PyData.eqv, Bool.beq_eq_decide_eq]
theorem rpD_look {G : Gm} {H : Hp} (k : Key) : ∀ {kvs : List (PyData × PyData)} {ks : List (Key × V)}, RpD G H kvs ks →
    match lookD kvs (kd k) with
    | none => valV ks k = none
    | some d => ∃ v, valV ks k = some v ∧ Rp G H d v
  | [], ks, h => by simp only [RpD] at h; subst h; rfl
  | (a, d) :: r, ks, h => by
    simp only [RpD] at h
    obtain ⟨kk, v, rest, rfl, rfl, h1, h2⟩ := h
    have ih := rpD_look k h2
    unfold lookD at ih ⊢
    rw [List.find?_cons, eqv_kd]
    by_cases e : kk = k
    · rw [decide_eq_true e, valV_pos (p := (kk, v)) e]
      exact ⟨v, rfl, h1⟩
    · rw [decide_eq_false e, valV_neg (p := (kk, v)) e]
      exact ih
theorem rpD_any {G : Gm} {H : Hp} (k : Key) : ∀ {kvs : List (PyData × PyData)} {ks : List (Key × V)}, RpD G H kvs ks → (kvs.any fun p => PyData.eqv p.1 (kd k)) = ks.any fun p => decide (p.1 = k)
  | [], ks, h => by simp only [RpD] at h; subst h; rfl
  | (a, d) :: r, ks, h => by
    simp only [RpD] at h
    obtain ⟨kk, v, rest, rfl, rfl, h1, h2⟩ := h
    rw [List.any_cons, List.any_cons, rpD_any k h2, eqv_kd]
theorem rpD_repl {G : Gm} {H : Hp} (k : Key) {w : PyData} {u : V} (hw : Rp G H w u) : ∀ {kvs : List (PyData × PyData)} {ks : List (Key × V)}, RpD G H kvs ks →
    RpD G H (kvs.map fun p => if PyData.eqv p.1 (kd k) = true then (p.1, w) else p) (ks.map fun kv => if kv.1 = k then (kv.1, u) else kv)
  | [], ks, h => by simp only [RpD] at h; subst h; simp [RpD]
  | (a, d) :: r, ks, h => by
    simp only [RpD] at h
    obtain ⟨kk, v, rest, rfl, rfl, h1, h2⟩ := h
    have ih := rpD_repl k hw h2
    rw [List.map_cons, List.map_cons]
    by_cases e : kk = k
    · rw [if_pos (by rw [eqv_kd]; exact decide_eq_true e), if_pos e]
      simp only [RpD]
      exact ⟨kk, u, _, rfl, rfl, hw, ih⟩
    · rw [if_neg (by rw [eqv_kd, decide_eq_false e]; exact Bool.false_ne_true), if_neg e]
      simp only [RpD]
      exact ⟨kk, v, _, rfl, rfl, h1, ih⟩
theorem rpD_snoc {G : Gm} {H : Hp} (k : Key) {w : PyData} {u : V} (hw : Rp G H w u) : ∀ {kvs : List (PyData × PyData)} {ks : List (Key × V)}, RpD G H kvs ks → RpD G H (kvs ++ [(kd k, w)]) (ks ++ [(k, u)])
  | [], ks, h => by simp only [RpD] at h; subst h; simp only [List.nil_append, RpD]; exact ⟨k, u, [], rfl, rfl, hw, rfl⟩
  | (a, d) :: r, ks, h => by
    simp only [RpD] at h
    obtain ⟨kk, v, rest, rfl, rfl, h1, h2⟩ := h
    rw [List.cons_append, List.cons_append]
    simp only [RpD]
    exact ⟨kk, v, _, rfl, rfl, h1, rpD_snoc k hw h2⟩
theorem rpD_put {G : Gm} {H : Hp} (k : Key) {w : PyData} {u : V} (hw : Rp G H w u) {kvs : List (PyData × PyData)} {ks : List (Key × V)} (h : RpD G H kvs ks) : RpD G H (putD kvs (kd k) w) (putK ks k u) := by
  unfold putD putK
  rw [rpD_any k h]
  by_cases e : (ks.any fun kv => decide (kv.1 = k)) = true
  · rw [if_pos e, if_pos e]; exact rpD_repl k hw h
  · rw [if_neg e, if_neg e]; exact rpD_snoc k hw h
theorem rpD_length {G : Gm} {H : Hp} : ∀ {kvs : List (PyData × PyData)} {ks : List (Key × V)}, RpD G H kvs ks → ks.length = kvs.length
  | [], ks, h => by simp only [RpD] at h; subst h; rfl
  | (a, d) :: r, ks, h => by
    simp only [RpD] at h
    obtain ⟨kk, v, rest, rfl, rfl, h1, h2⟩ := h
    rw [List.length_cons, List.length_cons, rpD_length h2]
theorem rpD_keys {G : Gm} {H : Hp} : ∀ {kvs : List (PyData × PyData)} {ks : List (Key × V)}, RpD G H kvs ks → ∀ (i : Nat) (k : Key) (v : V), ks[i]? = some (k, v) → (kvs.map (·.1))[i]? = some (kd k)
  | [], ks, h, i, k, v, e => by simp only [RpD] at h; subst h; simp at e
  | (a, d) :: r, ks, h, 0, k, v, e => by
    simp only [RpD] at h
    obtain ⟨kk, v', rest, rfl, rfl, h1, h2⟩ := h
    simp at e; obtain ⟨rfl, rfl⟩ := e; rfl
  | (a, d) :: r, ks, h, i + 1, k, v, e => by
    simp only [RpD] at h
    obtain ⟨kk, v', rest, rfl, rfl, h1, h2⟩ := h
    simpa using rpD_keys h2 i k v (by simpa using e)
end Bw

namespace Bw
open PySem PySem.Spec PyProof.Rows L2
def cmpOf : Bw.CmpO → PySem.CmpOp
  | .eq => .Eq | .ne => .NotEq | .lt => .Lt | .le => .LtE | .gt => .Gt | .ge => .GtE | .isin => .In | .notin => .NotIn
section
variable {X : Cx} {G : Gm}
theorem cmp_eq (hK : G.K = X.K) (hu : X.A.units + 66 < cLine) : OpR X (compareOp .Eq) (rB G fun d e => (dCmp .eq d e).map fun b => (.fz, .bool b)) := by
  intro pins s σ H x y v u Q I rx ry h
  obtain ⟨Hf, d, e, k, r, hs, vx, vy, hf, hq⟩ := h
  obtain ⟨b, hb, hf⟩ := Option.map_eq_some_iff.mp hf
  cases hf
  have hb : cEq d e = some b := hb
  unfold cEq at hb
  split at hb
  · rename_i c
    cases hb
    refine op_eqD (by omega) pins s σ H x y v u Q I rx ry ⟨d, e, ?_, ?_, c.1, c.2, fin_fz hs hq rp_bl⟩
    · rw [← hK]; exact vw_dp hs (nd_lay _ (SeqAt.canLay_of_shaped c.1)) vx
    · rw [← hK]; exact vw_dp hs (nd_lay _ (SeqAt.canLay_of_shaped c.2)) vy
  · cases hb
theorem cmp_ne (hK : G.K = X.K) (hu : X.A.units + 66 < cLine) : OpR X (compareOp .NotEq) (rB G fun d e => (dCmp .ne d e).map fun b => (.fz, .bool b)) := by
  intro pins s σ H x y v u Q I rx ry h
  obtain ⟨Hf, d, e, k, r, hs, vx, vy, hf, hq⟩ := h
  obtain ⟨b, hb, hf⟩ := Option.map_eq_some_iff.mp hf
  cases hf
  have hb : cNe d e = some b := hb
  unfold cNe at hb
  split at hb
  · rename_i c
    cases hb
    refine op_neD (by omega) pins s σ H x y v u Q I rx ry ⟨d, e, ?_, ?_, c.1, c.2, fin_fz hs hq rp_bl⟩
    · rw [← hK]; exact vw_dp hs (nd_lay _ (SeqAt.canLay_of_shaped c.1)) vx
    · rw [← hK]; exact vw_dp hs (nd_lay _ (SeqAt.canLay_of_shaped c.2)) vy
  · cases hb
theorem noneB_ne {d : PyData} (h : noneB d = false) : d ≠ .none := fun e => by subst e; cases h
theorem cmp_lt (hK : G.K = X.K) (hu : X.A.units + 66 < cLine) : OpR X (compareOp .Lt) (rB G fun d e => (dCmp .lt d e).map fun b => (.fz, .bool b)) := by
  intro pins s σ H x y v u Q I rx ry h
  obtain ⟨Hf, d, e, k, r, hs, vx, vy, hf, hq⟩ := h
  obtain ⟨b, hb, hf⟩ := Option.map_eq_some_iff.mp hf
  cases hf
  have hb : cLt d e = some b := hb
  unfold cLt at hb
  split at hb
  · cases hb; obtain rfl := vw_int vx; obtain rfl := vw_int vy
    exact op_lt pins s σ H _ _ v u Q I rx ry ⟨_, _, rfl, rfl, fin_fz hs hq rp_bl⟩
  · split at hb
    · rename_i c
      cases hb
      obtain ⟨c1, c2, c3, c4, c5⟩ := c
      have dx : Dp X.K H x d := by rw [← hK]; exact vw_dp hs (nd_alike _ c1) vx
      have dy : Dp X.K H y e := by rw [← hK]; exact vw_dp hs (nd_alike _ c2) vy
      obtain ⟨as, ra⟩ := Dp.reads I _ _ _ dx rx
      obtain ⟨bs, rb⟩ := Dp.reads I _ _ _ dy ry
      have q := PySem.W.rcLt_alike _ _ X.A s v u as bs ra rb c3 (noneB_ne c5) (by
        have : min d.depth e.depth ≤ d.depth := Nat.min_le_left _ _
        omega)
      exact q X.prog X.w X.xe _ ⟨.bl _, H, I, rfl, fin_fz hs hq rp_bl⟩
    · cases hb
  all_goals cases hb
theorem cmp_le : OpR X (compareOp .LtE) (rB G fun d e => (dCmp .le d e).map fun b => (.fz, .bool b)) := by
  intro pins s σ H x y v u Q I rx ry h
  obtain ⟨Hf, d, e, k, r, hs, vx, vy, hf, hq⟩ := h
  obtain ⟨b, hb, hf⟩ := Option.map_eq_some_iff.mp hf
  cases hf
  have hb : cLe d e = some b := hb
  unfold cLe at hb
  split at hb
  · cases hb; obtain rfl := vw_int vx; obtain rfl := vw_int vy
    exact op_le pins s σ H _ _ v u Q I rx ry ⟨_, _, rfl, rfl, fin_fz hs hq rp_bl⟩
  all_goals cases hb
theorem cmp_gt : OpR X (compareOp .Gt) (rB G fun d e => (dCmp .gt d e).map fun b => (.fz, .bool b)) := by
  intro pins s σ H x y v u Q I rx ry h
  obtain ⟨Hf, d, e, k, r, hs, vx, vy, hf, hq⟩ := h
  obtain ⟨b, hb, hf⟩ := Option.map_eq_some_iff.mp hf
  cases hf
  have hb : cGt d e = some b := hb
  unfold cGt at hb
  split at hb
  · cases hb; obtain rfl := vw_int vx; obtain rfl := vw_int vy
    exact op_gt pins s σ H _ _ v u Q I rx ry ⟨_, _, rfl, rfl, fin_fz hs hq rp_bl⟩
  all_goals cases hb
theorem cmp_ge : OpR X (compareOp .GtE) (rB G fun d e => (dCmp .ge d e).map fun b => (.fz, .bool b)) := by
  intro pins s σ H x y v u Q I rx ry h
  obtain ⟨Hf, d, e, k, r, hs, vx, vy, hf, hq⟩ := h
  obtain ⟨b, hb, hf⟩ := Option.map_eq_some_iff.mp hf
  cases hf
  have hb : cGe d e = some b := hb
  unfold cGe at hb
  split at hb
  · cases hb; obtain rfl := vw_int vx; obtain rfl := vw_int vy
    exact op_ge pins s σ H _ _ v u Q I rx ry ⟨_, _, rfl, rfl, fin_fz hs hq rp_bl⟩
  all_goals cases hb
theorem look_get {Hf H : Hp} {kvs : List (PyData × PyData)} {p : Addr} {ks : List (Key × V)} {k : Key} (hp : Rd H p (.dK ks)) (hr : RpD G Hf kvs ks) : ∃ o, DGet H p (kV k) o ∧
    (match lookD kvs (kd k) with
    | none => o = none
    | some d => ∃ v, o = some v ∧ Rp G Hf d v) := ⟨_, .inl ⟨ks, k, hp, rfl, rfl⟩, rpD_look k hr⟩
theorem str_one {x : Str} {c : Nat} (h : x.cps.toList = [c]) : x = ⟨#[c]⟩ := by
  obtain ⟨a⟩ := x
  have : a = #[c] := Array.toList_inj.mp h
  rw [this]
theorem cmp_in (hK : G.K = X.K) (hu : X.A.units + 66 < cLine) : OpR X (compareOp .In) (rB G fun d e => (dCmp .isin d e).map fun b => (.fz, .bool b)) := by
  intro pins s σ H x y v u Q I rx ry h
  obtain ⟨Hf, d, e, k, r, hs, vx, vy, hf, hq⟩ := h
  obtain ⟨b, hb, hf⟩ := Option.map_eq_some_iff.mp hf
  cases hf
  have hb : cIn d e = some b := hb
  unfold cIn at hb
  split at hb
  · split at hb
    · rename_i c
      cases hb
      obtain ⟨p, xs, rfl, t1, r1⟩ := vw_list hs vy
      have fx := vw_flat c.1 vx
      refine op_in_seq pins s σ H _ _ v u Q I rx ry ⟨p, xs, rfl, .inl (.inl (.inl t1)), flat_rp c.1 fx, flat_all c.2 r1, ?_⟩
      rw [if_neg Bool.false_ne_true, inV_any c.1 fx c.2 r1]
      exact fin_fz hs hq rp_bl
    · cases hb
  · split at hb
    · rename_i c
      cases hb
      obtain ⟨p, xs, rfl, t1, r1⟩ := vw_tuple hs vy
      have fx := vw_flat c.1 vx
      rw [hK] at t1
      refine op_in_seq pins s σ H _ _ v u Q I rx ry ⟨p, xs, rfl, .inr t1, flat_rp c.1 fx, flat_all c.2 r1, ?_⟩
      rw [if_neg Bool.false_ne_true, inV_any c.1 fx c.2 r1]
      exact fin_fz hs hq rp_bl
    · cases hb
  · split at hb
    · rename_i c
      cases hb
      obtain ⟨p, ks, rfl, t1, r1⟩ := vw_dict hs vy c.2
      obtain ⟨kk, _, rfl, rfl⟩ := key_rp c.1 vx
      obtain ⟨o, g, ho⟩ := look_get (k := kk) t1 r1
      cases ry
      refine d_in (by omega) I g rx fun s' I' => ⟨.bl _, H, I', rfl, ?_⟩
      cases e : lookD _ (kd kk) with
      | none =>
        rw [e] at ho hq
        simp only at ho
        subst ho
        exact fin_fz hs hq rp_bl
      | some w =>
        rw [e] at ho hq
        simp only at ho
        obtain ⟨z, rfl, _⟩ := ho
        exact fin_fz hs hq rp_bl
    · cases hb
  · split at hb
    · split at hb
      · rename_i c hc
        cases hb
        obtain rfl := vw_str vx
        obtain rfl := vw_str vy
        have := str_one hc
        subst this
        exact op_in_sign pins s σ H _ _ v u Q I rx ry ⟨c, _, rfl, rfl, fin_fz hs hq rp_bl⟩
      · cases hb
    · cases hb
  all_goals cases hb
theorem cmp_notin (hK : G.K = X.K) (hu : X.A.units + 66 < cLine) : OpR X (compareOp .NotIn) (rB G fun d e => (dCmp .notin d e).map fun b => (.fz, .bool b)) := by
  intro pins s σ H x y v u Q I rx ry h
  obtain ⟨Hf, d, e, k, r, hs, vx, vy, hf, hq⟩ := h
  obtain ⟨b, hb, hf⟩ := Option.map_eq_some_iff.mp hf
  cases hf
  have hb : cNotIn d e = some b := hb
  unfold cNotIn at hb
  split at hb
  · split at hb
    · rename_i c
      cases hb
      obtain ⟨p, xs, rfl, t1, r1⟩ := vw_list hs vy
      have fx := vw_flat c.1 vx
      refine op_notIn_seq pins s σ H _ _ v u Q I rx ry ⟨p, xs, rfl, .inl (.inl (.inl t1)), flat_rp c.1 fx, flat_all c.2 r1, ?_⟩
      rw [if_pos rfl, inV_any c.1 fx c.2 r1]
      exact fin_fz hs hq rp_bl
    · cases hb
  · split at hb
    · rename_i c
      cases hb
      obtain ⟨p, xs, rfl, t1, r1⟩ := vw_tuple hs vy
      have fx := vw_flat c.1 vx
      rw [hK] at t1
      refine op_notIn_seq pins s σ H _ _ v u Q I rx ry ⟨p, xs, rfl, .inr t1, flat_rp c.1 fx, flat_all c.2 r1, ?_⟩
      rw [if_pos rfl, inV_any c.1 fx c.2 r1]
      exact fin_fz hs hq rp_bl
    · cases hb
  · split at hb
    · rename_i c
      cases hb
      obtain ⟨p, ks, rfl, t1, r1⟩ := vw_dict hs vy c.2
      obtain ⟨kk, _, rfl, rfl⟩ := key_rp c.1 vx
      obtain ⟨o, g, ho⟩ := look_get (k := kk) t1 r1
      cases ry
      refine d_notIn (by omega) I g rx fun s' I' => ⟨.bl _, H, I', rfl, ?_⟩
      cases e : lookD _ (kd kk) with
      | none =>
        rw [e] at ho hq
        simp only at ho
        subst ho
        exact fin_fz hs hq rp_bl
      | some w =>
        rw [e] at ho hq
        simp only at ho
        obtain ⟨z, rfl, _⟩ := ho
        exact fin_fz hs hq rp_bl
    · cases hb
  all_goals cases hb
theorem op_cmp (hK : G.K = X.K) (hu : X.A.units + 66 < cLine) : ∀ o : Bw.CmpO, OpR X (compareOp (cmpOf o)) (rB G fun d e => (dCmp o d e).map fun b => (.fz, .bool b))
  | .eq => cmp_eq hK hu
  | .ne => cmp_ne hK hu
  | .lt => cmp_lt hK hu
  | .le => cmp_le
  | .gt => cmp_gt
  | .ge => cmp_ge
  | .isin => cmp_in hK hu
  | .notin => cmp_notin hK hu
end
end Bw

namespace PySem
open Sem (wp)
section
variable {prog : Program} {w : World} {A : Around} {E : Value → Shared → Prop} {s : Shared}
/-- min(a, b), the items compared where H stands -/
theorem Bw.call_min_twoH {a b : Value} {Q : Value → Shared → Prop}
    (h : wpAny (model prog w) A.in1 (pyIter (.ref s.heap.objs.size)) (fun it s₂ => ∃ I fp wr G n P St H bt, it = .ref I ∧ WalksS prog w A.in1 I fp wr G n P St ∧ St 0 s₂ ∧ (∀ b ∈ fp, b < s₂.heap.objs.size) ∧ 0 < n ∧
      (∀ b o, H.get? b = some o → b ∉ wr) ∧ (∀ b o, H.get? b = some o → s₂.heap.get? b = some o) ∧ CmpIn prog w A.in1 .Lt H P bt ∧ ∀ v s', P (argBest bt (n - 1)) v → Moved wr G s₂ s' → Q v s') E
      { s with heap := s.heap.push { cls := .type "tuple", data := .seq #[a, b] } }) :
    wpAny (model prog w) A (call (.builtin "min") [a, b]) Q E s := by
  have hname : (toString "min" ++ toString ".loop" : String) = "min.loop" := by decide
  refine call_function_tree F.kind_min F.plain_min F.entry_min (F.args_min2 _ _) ?_
  show wpAny _ A.in1 (Builtin.Builtins.bindParams "min" ["key", "default"] 0 ⟨[], []⟩ >>= _) _ _ s
  refine wpAny_bind (wpAny_of_eq (show Builtin.Builtins.bindParams "min" ["key", "default"] 0 ⟨[], []⟩ = pure [none, none] from rfl) ?_)
  show wpAny _ A.in1 (newTuple [a, b] >>= _) _ _ s
  refine wpAny_bind (wpAny_newObj_type ?_)
  refine wpAny_bind (wpAny_mono h (fun it s₂ h₂ => ?_) fun _ _ e => e)
  obtain ⟨I, fp, wr, G, n, P, St, H, bt, rfl, W, hst, hfp, hn, hw, hkeep, hcmp, hQ⟩ := h₂
  refine wpAny_bind (wpAny_newObj_type ?_)
  have hSf : s₂.heap.objs.size ∉ fp := fun hm => Nat.lt_irrefl _ (hfp _ hm)
  rw [hname]
  refine wpAny_pure ⟨plainId_quiet F.plain_min_loop _, codeAny_min_loop_firstH W H hw bt hcmp s₂.heap.objs.size hSf (fresh_in hkeep) _ hn (fun b o e => Heap.get?_push_of_some _ (hkeep b o e)) (W.frame 0 s₂ _ s₂.toks hst (Nat.le_refl _) fun b _ o e => Heap.get?_push_of_some _ e) (Heap.get?_push_size _ rfl) fun v s' hP hm => ?_⟩
  exact hQ v s' hP (Moved.drop_new (tk := s₂.toks) hm (Nat.le_refl _))
end
end PySem
namespace Bw
open PySem PySem.Spec PyProof.Rows L2 PySem.W
section
variable {prog : Program} {w : World} {A : Around} {E : Value → Shared → Prop} {s : Shared}
theorem min_two_data {a b : Value} {x y : PyData} {as : List Addr} {Q : Value → Shared → Prop} (hh : A.handled = none) (hr : ReadsAll s.heap [a, b] [x, y] as) (ha : AlikeAll [x, y]) (hu : A.units + 1 + PyData.depthAll [x, y] < cLine)
    (h : ∀ (i : Nat) v h' tk bs, [a, b][i]? = some v → Reads h' v (minD x [y]) bs → (∀ b o, s.heap.get? b = some o → h'.get? b = some o) → Q v { s with heap := h', toks := tk }) :
    wpAny (model prog w) A (call (.builtin "min") [a, b]) Q E s := by
  have kp : ∀ c o, s.heap.get? c = some o → (s.heap.push { cls := .type "tuple", data := .seq #[a, b] }).get? c = some o := fun c o e => Heap.get?_push_of_some _ e
  have hl : (s.heap.push { cls := .type "tuple", data := .seq #[a, b] }).IsTuple s.heap.objs.size #[a, b] := ⟨_, Heap.get?_push_size _ rfl, rfl, 0, rfl⟩
  have hr2 : ReadsAll (s.heap.push { cls := .type "tuple", data := .seq #[a, b] }) (#[a, b] : Array Value).toList [x, y] as := PyProof.Rows.ReadsAll.keeps kp hr
  refine Bw.call_min_twoH (iter_tupleW (A := A.in1) (s := { s with heap := s.heap.push { cls := .type "tuple", data := .seq #[a, b] } }) hh hl fun s₂ e W st hfp hw hk => ?_)
  refine ⟨_, _, _, _, _, _, _, _, _, rfl, W, st, hfp, by simp, hw, hk, cmpIn_lt (A := A.in1) (s := { s with heap := s.heap.push { cls := .type "tuple", data := .seq #[a, b] } }) hr2 ha (by show A.units + 1 + _ < _; exact hu), fun v s' hP m => ?_⟩
  obtain ⟨h', tk, rfl, hk'⟩ := moved_old e rfl m
  obtain ⟨bs, r, _, _, _⟩ := readsAll_atA hr2 _ v hP
  have e1 : (#[a, b] : Array Value).size - 1 = [y].length := rfl
  have e2 := (argBest_fold dataLt PyData.none x [y] [y].length (Nat.le_refl _)).2
  rw [List.take_length] at e2
  rw [e1] at r
  refine h _ v h' tk bs (by simpa using hP) (reads_keeps hk' (by unfold minD; rw [← e2]; exact r)) fun c o e => hk' c o (kp c o e)
end
theorem intsD_rp {G : Gm} {H : Hp} : ∀ {ds : List PyData} {vs : List V} {ns : List Int}, intsD ds = some ns → RpL G H ds vs → vs = ns.map V.int
  | [], vs, ns, e, h => by simp only [RpL] at h; subst h; cases e; rfl
  | d :: ds, vs, ns, e, h => by
    simp only [RpL] at h
    obtain ⟨v, r, rfl, h1, h2⟩ := h
    cases d with
    | int i =>
      obtain ⟨ms, e1, rfl⟩ := Option.map_eq_some_iff.mp (show (intsD ds).map (i :: ·) = some ns from e)
      simp only [Rp] at h1
      rw [h1, intsD_rp e1 h2]; rfl
    | _ => cases e
theorem boolsD_rp {G : Gm} {H : Hp} : ∀ {ds : List PyData} {vs : List V} {ns : List Bool}, boolsD ds = some ns → RpL G H ds vs → vs = ns.map V.bl
  | [], vs, ns, e, h => by simp only [RpL] at h; subst h; cases e; rfl
  | d :: ds, vs, ns, e, h => by
    simp only [RpL] at h
    obtain ⟨v, r, rfl, h1, h2⟩ := h
    cases d with
    | bool i =>
      obtain ⟨ms, e1, rfl⟩ := Option.map_eq_some_iff.mp (show (boolsD ds).map (i :: ·) = some ns from e)
      simp only [Rp] at h1
      rw [h1, boolsD_rp e1 h2]; rfl
    | _ => cases e
theorem vwl1 {G : Gm} {Hf H : Hp} {d : PyData} {vs : List V} (h : VwL G Hf H [d] vs) : ∃ v, vs = [v] ∧ Vw G Hf H d v := by
  obtain ⟨v, r, rfl, h1, h2⟩ := h
  cases (show r = [] from h2)
  exact ⟨v, rfl, h1⟩
theorem vwl2 {G : Gm} {Hf H : Hp} {d e : PyData} {vs : List V} (h : VwL G Hf H [d, e] vs) : ∃ v w, vs = [v, w] ∧ Vw G Hf H d v ∧ Vw G Hf H e w := by
  obtain ⟨v, r, rfl, h1, w, r', rfl, h2, h3⟩ := h
  cases (show r' = [] from h3)
  exact ⟨v, w, rfl, h1, h2⟩
theorem alikeB_all {xs : List PyData} (h : alikeB xs = true) : ∀ x ∈ xs, ∀ y ∈ xs, alike x y = true := fun x hx y hy => by
  unfold alikeB at h
  rw [List.all_eq_true] at h
  exact List.all_eq_true.mp (h x hx) y hy
theorem ndL_of {xs : List PyData} (h : ∀ x ∈ xs, nd x = true) : ndL xs = true := by
  induction xs with
  | nil => simp [ndL]
  | cons x xs ih => rw [ndL, h x List.mem_cons_self, ih fun y hy => h y (List.mem_cons_of_mem _ hy)]; rfl
theorem alikeB_nd {xs : List PyData} (h : alikeB xs = true) : ndL xs = true := ndL_of fun x hx => nd_alike x (alikeB_all h x hx x hx)
theorem alikeAll_of {xs : List PyData} (h : alikeB xs = true) (n : xs.all (fun d => !noneB d) = true) : AlikeAll xs := ⟨alikeB_all h, fun x hx => noneB_ne (by
  have := List.all_eq_true.mp n x hx
  simpa using this)⟩
section
variable {X : Cx} {G : Gm} {pins : List (Addr × Obj)} {s : Shared} {σ : L2.St} {H Hf : Hp} {Q : VK}
/-- the item that was picked -/
theorem picked {xs : List PyData} {vs : List V} {its : List Value} {r : PyData} {i : Nat} {v : Value} {h' : Heap} {bs : List Addr} (I : L2.Inv X pins σ H s) (hs : Sub Hf H) (hr : RpL G Hf xs vs) (rv : Vals vs its)
    (ha : ∀ x ∈ xs, alike x r = true) (reads : ∃ as, ReadsAll s.heap its xs as) (hi : its[i]? = some v) (rr : Reads h' v r bs) (kp : ∀ b o, s.heap.get? b = some o → h'.get? b = some o) : ∃ w, RelV w v ∧ Rp G Hf r w := by
  obtain ⟨as, ra⟩ := reads
  have hlt : i < its.length := (List.getElem?_eq_some_iff.mp hi).1
  have hl := rv.length
  have hlt2 : i < vs.length := by omega
  obtain ⟨d, hd, rp⟩ := hr.getV (List.getElem?_eq_getElem hlt2)
  obtain ⟨u, hu, ru⟩ := rv.get (List.getElem?_eq_getElem hlt2)
  rw [hi] at hu
  cases hu
  obtain ⟨cs, rd, _, _, _⟩ := readsAll_at ra i v hi
  have e1 : xs.getD i .none = d := by
    rw [List.getD_eq_getElem?_getD, hd]; rfl
  rw [e1] at rd
  have e2 : d = r := alike_unique d r v cs bs (ha d (List.mem_of_getElem? hd)) (PyProof.Rows.Reads.keeps kp rd) rr
  subst e2
  exact ⟨_, ru, rp⟩
theorem minD_mem (x : PyData) (xs : List PyData) : PySem.W.minD x xs ∈ x :: xs := by
  unfold PySem.W.minD
  induction xs generalizing x with
  | nil => simp
  | cons y ys ih =>
    rw [List.foldl_cons]
    cases dataLt y x with
    | true => exact List.mem_cons_of_mem _ (ih y)
    | false =>
      have := ih x
      simp only [Bool.false_eq_true, if_false]
      rcases List.mem_cons.mp this with e | e
      · rw [e]; exact List.mem_cons_self
      · exact List.mem_cons_of_mem _ (List.mem_cons_of_mem _ e)
theorem maxD_mem (x : PyData) (xs : List PyData) : PySem.W.maxD x xs ∈ x :: xs := by
  unfold PySem.W.maxD
  induction xs generalizing x with
  | nil => simp
  | cons y ys ih =>
    rw [List.foldl_cons]
    cases dataLt x y with
    | true => exact List.mem_cons_of_mem _ (ih y)
    | false =>
      have := ih x
      simp only [Bool.false_eq_true, if_false]
      rcases List.mem_cons.mp this with e | e
      · rw [e]; exact List.mem_cons_self
      · exact List.mem_cons_of_mem _ (List.mem_cons_of_mem _ e)
end
section
variable {X : Cx} {G : Gm}
theorem minL_eq {xs : List PyData} {r : PyData} (h : minL xs = some r) : ∃ x ys, xs = x :: ys ∧ r = minD x ys ∧ alikeB xs = true ∧ PyData.depthAll xs ≤ 60 ∧ xs.all (fun d => !noneB d) = true := by
  cases xs with
  | nil => cases h
  | cons x ys =>
    unfold minL at h
    dsimp only at h
    split at h
    · rename_i c; cases h; exact ⟨x, ys, rfl, rfl, c.1, c.2.1, c.2.2⟩
    · cases h
theorem maxL_eq {xs : List PyData} {r : PyData} (h : maxL xs = some r) : ∃ x ys, xs = x :: ys ∧ r = maxD x ys ∧ alikeB xs = true ∧ PyData.depthAll xs ≤ 60 ∧ xs.all (fun d => !noneB d) = true := by
  cases xs with
  | nil => cases h
  | cons x ys =>
    unfold maxL at h
    dsimp only at h
    split at h
    · rename_i c; cases h; exact ⟨x, ys, rfl, rfl, c.1, c.2.1, c.2.2⟩
    · cases h
def biV : Bi → Value
  | .len => .builtin "len" | .abs => .builtin "abs" | .int => .type "int" | .sum => .builtin "sum" | .min => .builtin "min" | .max => .builtin "max" | .any => .builtin "any" | .all => .builtin "all"
  | .sorted => .builtin "sorted" | .list => .type "list" | .tuple => .type "tuple"
theorem cb_len (hK : G.K = X.K) : CallR X (.builtin "len") (rC G bLen) := by
  intro pins s σ H xs us Q I rr h
  obtain ⟨Hf, ds, k, r, hs, vx, hf, hq⟩ := h
  unfold bLen at hf
  split at hf
  · cases hf
    obtain ⟨v, rfl, vy⟩ := vwl1 vx
    obtain ⟨p, ys, rfl, t1, r1⟩ := vw_list hs vy
    exact call_len_seq pins s σ H _ us Q I rr ⟨p, ys, rfl, .inl (.inl (.inl t1)), fin_fz hs hq (by rw [r1.length]; exact rp_int)⟩
  · cases hf
    obtain ⟨v, rfl, vy⟩ := vwl1 vx
    obtain ⟨p, ys, rfl, t1, r1⟩ := vw_tuple hs vy
    rw [hK] at t1
    exact call_len_seq pins s σ H _ us Q I rr ⟨p, ys, rfl, .inr t1, fin_fz hs hq (by rw [r1.length]; exact rp_int)⟩
  · split at hf
    · rename_i c
      cases hf
      obtain ⟨v, rfl, vy⟩ := vwl1 vx
      obtain rfl := vw_str vy
      exact call_len_str pins s σ H _ us Q I rr ⟨_, rfl, sz5 c, fin_fz hs hq rp_int⟩
    · cases hf
  · cases hf
theorem cb_abs : CallR X (.builtin "abs") (rC G bAbs) := by
  intro pins s σ H xs us Q I rr h
  obtain ⟨Hf, ds, k, r, hs, vx, hf, hq⟩ := h
  unfold bAbs at hf
  split at hf
  · cases hf
    obtain ⟨v, rfl, vy⟩ := vwl1 vx
    obtain rfl := vw_int vy
    exact call_abs pins s σ H _ us Q I rr ⟨_, rfl, fin_fz hs hq rp_int⟩
  · cases hf
theorem cb_int : CallR X (.type "int") (rC G bInt) := by
  intro pins s σ H xs us Q I rr h
  obtain ⟨Hf, ds, k, r, hs, vx, hf, hq⟩ := h
  unfold bInt at hf
  split at hf
  · cases hf
    obtain ⟨v, rfl, vy⟩ := vwl1 vx
    obtain rfl := vw_int vy
    exact call_int1 pins s σ H _ us Q I rr (.inl ⟨_, rfl, fin_fz hs hq rp_int⟩)
  · cases hf
theorem cb_sum (hc : X.calm = true) : CallR X (.builtin "sum") (rC G bSum) := by
  intro pins s σ H xs us Q I rr h
  obtain ⟨Hf, ds, k, r, hs, vx, hf, hq⟩ := h
  unfold bSum at hf
  split at hf
  · obtain ⟨ns, e1, e2⟩ := Option.map_eq_some_iff.mp hf
    cases e2
    obtain ⟨v, rfl, vy⟩ := vwl1 vx
    obtain ⟨p, ys, rfl, t1, r1⟩ := vw_list hs vy
    have := intsD_rp e1 r1
    subst this
    exact cr_sum hc pins s σ H _ us Q I rr ⟨p, ns, rfl, .inl (.inl t1), fin_fz hs hq rp_int⟩
  · cases hf
theorem cb_any (hc : X.calm = true) : CallR X (.builtin "any") (rC G bAny) := by
  intro pins s σ H xs us Q I rr h
  obtain ⟨Hf, ds, k, r, hs, vx, hf, hq⟩ := h
  unfold bAny at hf
  split at hf
  · obtain ⟨ns, e1, e2⟩ := Option.map_eq_some_iff.mp hf
    cases e2
    obtain ⟨v, rfl, vy⟩ := vwl1 vx
    obtain ⟨p, ys, rfl, t1, r1⟩ := vw_list hs vy
    have := boolsD_rp e1 r1
    subst this
    exact cr_any hc pins s σ H _ us Q I rr ⟨p, ns, rfl, .inl (.inl t1), fin_fz hs hq rp_bl⟩
  · cases hf
theorem cb_all (hc : X.calm = true) : CallR X (.builtin "all") (rC G bAll) := by
  intro pins s σ H xs us Q I rr h
  obtain ⟨Hf, ds, k, r, hs, vx, hf, hq⟩ := h
  unfold bAll at hf
  split at hf
  · obtain ⟨ns, e1, e2⟩ := Option.map_eq_some_iff.mp hf
    cases e2
    obtain ⟨v, rfl, vy⟩ := vwl1 vx
    obtain ⟨p, ys, rfl, t1, r1⟩ := vw_list hs vy
    have := boolsD_rp e1 r1
    subst this
    exact cr_all hc pins s σ H _ us Q I rr ⟨p, ns, rfl, .inl (.inl t1), fin_fz hs hq rp_bl⟩
  · cases hf
theorem cb_list (hK : G.K = X.K) : CallR X (.type "list") (rC G bList) := by
  intro pins s σ H xs us Q I rr h
  obtain ⟨Hf, ds, k, r, hs, vx, hf, hq⟩ := h
  unfold bList at hf
  split at hf
  · cases hf
    obtain ⟨v, rfl, vy⟩ := vwl1 vx
    obtain ⟨p, ys, rfl, t1, r1⟩ := vw_list hs vy
    exact call_list_of pins s σ H _ us Q I rr ⟨p, ys, rfl, .inl (.inl (.inl t1)), fun l hl => fin_lst hs hq r1 hl⟩
  · cases hf
    obtain ⟨v, rfl, vy⟩ := vwl1 vx
    obtain ⟨p, ys, rfl, t1, r1⟩ := vw_tuple hs vy
    rw [hK] at t1
    exact call_list_of pins s σ H _ us Q I rr ⟨p, ys, rfl, .inr t1, fun l hl => fin_lst hs hq r1 hl⟩
  · cases hf
theorem cb_tuple (hK : G.K = X.K) : CallR X (.type "tuple") (rC G bTuple) := by
  intro pins s σ H xs us Q I rr h
  obtain ⟨Hf, ds, k, r, hs, vx, hf, hq⟩ := h
  unfold bTuple at hf
  split at hf
  · cases hf
    obtain ⟨v, rfl, vy⟩ := vwl1 vx
    obtain ⟨p, ys, rfl, t1, r1⟩ := vw_list hs vy
    exact call_tuple_of pins s σ H _ us Q I rr ⟨p, ys, rfl, .inl ⟨.inl (.inl t1), fun l hl => fin_tup hs hq r1 hl⟩⟩
  · cases hf
    obtain ⟨v, rfl, vy⟩ := vwl1 vx
    have vx0 := vy
    obtain ⟨p, ys, rfl, t1, r1⟩ := vw_tuple hs vy
    rw [hK] at t1
    refine call_tuple_of pins s σ H _ us Q I rr ⟨p, ys, rfl, .inr ⟨t1, fin_fz hs hq ?_⟩⟩
    rcases vx0 with z | ⟨_, _, _, z⟩
    · exact z
    · exact z.elim
  · cases hf
theorem cb_min (hK : G.K = X.K) (hc : X.calm = true) (hu : X.A.units + 66 < cLine) : CallR X (.builtin "min") (rC G bMin) := by
  intro pins s σ H xs us Q I rr h
  obtain ⟨Hf, ds, k, r, hs, vx, hf, hq⟩ := h
  unfold bMin at hf
  split at hf
  · cases hf
    obtain ⟨v, w, rfl, v1, v2⟩ := vwl2 vx
    obtain rfl := vw_int v1
    obtain rfl := vw_int v2
    exact call_min2 hc pins s σ H _ us Q I rr ⟨_, _, rfl, fin_fz hs hq rp_int⟩
  · obtain ⟨d, e1, e2⟩ := Option.map_eq_some_iff.mp hf
    cases e2
    obtain ⟨v, rfl, vy⟩ := vwl1 vx
    obtain ⟨p, ys, rfl, t1, r1⟩ := vw_list hs vy
    obtain ⟨x, zs, rfl, rfl, a1, a2, a3⟩ := minL_eq e1
    obtain ⟨u, rfl, ru⟩ := rr.one
    cases ru
    obtain ⟨its, rv, hl, _⟩ := I.list (.inl (.inl t1))
    have dp : DpAll X.K H ys (x :: zs) := by rw [← hK]; exact rp_dpL hs (alikeB_nd a1) r1
    obtain ⟨as, ra⟩ := Dp.readsAll I _ _ its dp rv
    refine min_list_data (I.ok.hd hc) hl.isList (by simpa using ra) (alikeAll_of a1 a3) (by omega) fun i v h' tk bs hv rd kp => ?_
    obtain ⟨w, rw', rp⟩ := picked I hs r1 rv (fun y hy => alikeB_all a1 y hy _ (minD_mem x zs)) ⟨as, ra⟩ (by simpa using hv) rd kp
    exact ⟨w, H, I.kept kp, rw', fin_fz hs hq rp⟩
  · obtain ⟨d, e1, e2⟩ := Option.map_eq_some_iff.mp hf
    cases e2
    obtain ⟨v, rfl, vy⟩ := vwl1 vx
    obtain ⟨p, ys, rfl, t1, r1⟩ := vw_tuple hs vy
    obtain ⟨x, zs, rfl, rfl, a1, a2, a3⟩ := minL_eq e1
    obtain ⟨u, rfl, ru⟩ := rr.one
    cases ru
    rw [hK] at t1
    obtain ⟨its, rv, hl, _⟩ := I.tuple t1
    have dp : DpAll X.K H ys (x :: zs) := by rw [← hK]; exact rp_dpL hs (alikeB_nd a1) r1
    obtain ⟨as, ra⟩ := Dp.readsAll I _ _ its dp rv
    refine min_tuple_data (I.ok.hd hc) hl (by simpa using ra) (alikeAll_of a1 a3) (by omega) fun i v h' tk bs hv rd kp => ?_
    obtain ⟨w, rw', rp⟩ := picked I hs r1 rv (fun y hy => alikeB_all a1 y hy _ (minD_mem x zs)) ⟨as, ra⟩ (by simpa using hv) rd kp
    exact ⟨w, H, I.kept kp, rw', fin_fz hs hq rp⟩
  · obtain ⟨d, e1, e2⟩ := Option.map_eq_some_iff.mp hf
    cases e2
    obtain ⟨v, w, rfl, v1, v2⟩ := vwl2 vx
    obtain ⟨x, zs, e0, rfl, a1, a2, a3⟩ := minL_eq e1
    cases e0
    obtain ⟨u1, u2, rfl, r1, r2⟩ := rr.two
    have n := alikeB_nd a1
    simp only [ndL, Bool.and_eq_true] at n
    have dp : DpAll X.K H [v, w] [_, _] := .cons (by rw [← hK]; exact vw_dp hs n.1 v1) (.cons (by rw [← hK]; exact vw_dp hs n.2.1 v2) .nil)
    have rv : Vals [v, w] [u1, u2] := .cons r1 (.cons r2 .nil)
    obtain ⟨as, ra⟩ := Dp.readsAll I _ _ [u1, u2] dp rv
    rename_i la lb
    have w1 : Rp G Hf (.tuple la) v := by
      rcases v1 with z | ⟨_, _, _, z⟩
      · exact z
      · exact z.elim
    have w2 : Rp G Hf (.tuple lb) w := by
      rcases v2 with z | ⟨_, _, _, z⟩
      · exact z
      · exact z.elim
    refine min_two_data (I.ok.hd hc) ra (alikeAll_of a1 a3) (by omega) fun i v' h' tk bs hv rd kp => ?_
    obtain ⟨w', rw', rp⟩ := picked I hs (RpL.cons w1 (RpL.cons w2 RpL.nil)) rv (fun y hy => alikeB_all a1 y hy _ (minD_mem _ _)) ⟨as, ra⟩ hv rd kp
    exact ⟨w', H, I.kept kp, rw', fin_fz hs hq rp⟩
  · cases hf
theorem cb_max (hK : G.K = X.K) (hc : X.calm = true) (hu : X.A.units + 66 < cLine) : CallR X (.builtin "max") (rC G bMax) := by
  intro pins s σ H xs us Q I rr h
  obtain ⟨Hf, ds, k, r, hs, vx, hf, hq⟩ := h
  unfold bMax at hf
  split at hf
  · cases hf
    obtain ⟨v, w, rfl, v1, v2⟩ := vwl2 vx
    obtain rfl := vw_int v1
    obtain rfl := vw_int v2
    exact call_max2 hc pins s σ H _ us Q I rr ⟨_, _, rfl, fin_fz hs hq rp_int⟩
  · obtain ⟨d, e1, e2⟩ := Option.map_eq_some_iff.mp hf
    cases e2
    obtain ⟨v, rfl, vy⟩ := vwl1 vx
    obtain ⟨p, ys, rfl, t1, r1⟩ := vw_list hs vy
    obtain ⟨x, zs, rfl, rfl, a1, a2, a3⟩ := maxL_eq e1
    obtain ⟨u, rfl, ru⟩ := rr.one
    cases ru
    obtain ⟨its, rv, hl, _⟩ := I.list (.inl (.inl t1))
    have dp : DpAll X.K H ys (x :: zs) := by rw [← hK]; exact rp_dpL hs (alikeB_nd a1) r1
    obtain ⟨as, ra⟩ := Dp.readsAll I _ _ its dp rv
    refine max_list_data (I.ok.hd hc) hl.isList (by simpa using ra) (alikeAll_of a1 a3) (by omega) fun i v h' tk bs hv rd kp => ?_
    obtain ⟨w, rw', rp⟩ := picked I hs r1 rv (fun y hy => alikeB_all a1 y hy _ (maxD_mem x zs)) ⟨as, ra⟩ (by simpa using hv) rd kp
    exact ⟨w, H, I.kept kp, rw', fin_fz hs hq rp⟩
  · obtain ⟨d, e1, e2⟩ := Option.map_eq_some_iff.mp hf
    cases e2
    obtain ⟨v, rfl, vy⟩ := vwl1 vx
    obtain ⟨p, ys, rfl, t1, r1⟩ := vw_tuple hs vy
    obtain ⟨x, zs, rfl, rfl, a1, a2, a3⟩ := maxL_eq e1
    obtain ⟨u, rfl, ru⟩ := rr.one
    cases ru
    rw [hK] at t1
    obtain ⟨its, rv, hl, _⟩ := I.tuple t1
    have dp : DpAll X.K H ys (x :: zs) := by rw [← hK]; exact rp_dpL hs (alikeB_nd a1) r1
    obtain ⟨as, ra⟩ := Dp.readsAll I _ _ its dp rv
    refine max_tuple_data (I.ok.hd hc) hl (by simpa using ra) (alikeAll_of a1 a3) (by omega) fun i v h' tk bs hv rd kp => ?_
    obtain ⟨w, rw', rp⟩ := picked I hs r1 rv (fun y hy => alikeB_all a1 y hy _ (maxD_mem x zs)) ⟨as, ra⟩ (by simpa using hv) rd kp
    exact ⟨w, H, I.kept kp, rw', fin_fz hs hq rp⟩
  · cases hf
theorem each_of {G : Gm} {Hf : Hp} {h : Heap} : ∀ {ds : List PyData} {vs : List V} {its : List Value} {as : List Addr}, RpL G Hf ds vs → Vals vs its → ReadsAll h its ds as →
    EachIs (fun (u : Value) (d : PyData) => ∃ w, RelV w u ∧ Rp G Hf d w) its ds ∧ EachIs (fun (u : Value) (d : PyData) => ∃ as, Reads h u d as) its ds
  | [], vs, its, as, h1, h2, h3 => by
    simp only [RpL] at h1; subst h1; cases h2; exact ⟨.nil, .nil⟩
  | d :: ds, vs, its, as, h1, h2, h3 => by
    simp only [RpL] at h1
    obtain ⟨v, r, rfl, p1, p2⟩ := h1
    cases h2 with
    | cons q1 q2 =>
      cases h3 with
      | cons r1 r2 =>
        obtain ⟨e1, e2⟩ := each_of p2 q2 r2
        exact ⟨.cons ⟨v, q1, p1⟩ e1, .cons ⟨_, r1⟩ e2⟩
theorem of_each {G : Gm} {Hf : Hp} : ∀ {its : List Value} {ds : List PyData}, EachIs (fun (u : Value) (d : PyData) => ∃ w, RelV w u ∧ Rp G Hf d w) its ds → ∃ vs, RpL G Hf ds vs ∧ Vals vs its
  | _, _, .nil => ⟨[], RpL.nil, .nil⟩
  | _, _, .cons ⟨w, h1, h2⟩ t => by
    obtain ⟨vs, a, b⟩ := of_each t
    exact ⟨w :: vs, RpL.cons h2 a, .cons h1 b⟩
theorem cb_sorted (hK : G.K = X.K) (hu : X.A.units + 66 < cLine) : CallR X (.builtin "sorted") (rC G bSorted) := by
  intro pins s σ H xs us Q I rr h
  obtain ⟨Hf, ds, k, r, hs, vx, hf, hq⟩ := h
  unfold bSorted at hf
  split at hf
  · rename_i zs
    split at hf
    · rename_i c
      cases hf
      unfold sortB at c
      simp only [Bool.and_eq_true, Bool.or_eq_true, decide_eq_true_eq] at c
      obtain ⟨⟨⟨c1, c2⟩, c3⟩, c4⟩ := c
      obtain ⟨v, rfl, vy⟩ := vwl1 vx
      obtain ⟨p, ys, rfl, t1, r1⟩ := vw_list hs vy
      obtain ⟨u, rfl, ru⟩ := rr.one
      cases ru
      obtain ⟨its, rv, hl, _⟩ := I.list (.inl (.inl t1))
      have dp : DpAll X.K H ys zs := by rw [← hK]; exact rp_dpL hs (alikeB_nd c1) r1
      obtain ⟨as, ra⟩ := Dp.readsAll I _ _ its dp rv
      obtain ⟨e1, e2⟩ := each_of r1 rv ra
      have hk : Sortable (zs.map id) := by
        rw [List.map_id]
        rcases c2 with c2 | c2
        · refine .inl fun d hd => ?_
          have := List.all_eq_true.mp c2 d hd
          cases d with
          | tuple l => cases l with
            | nil => cases this
            | cons a b => exact ⟨a, b, rfl⟩
          | _ => cases this
        · refine .inr fun d hd => ?_
          have := List.all_eq_true.mp c2 d hd
          exact ⟨(fun z => by (rw [z] at this; cases this)), (fun l z => by (rw [z] at this; cases this))⟩
      refine sorted_data (enc := id) hl.isList e1 e2 (by rw [List.map_id]; exact fun d hd d' hd' => alikeB_all c1 d hd d' hd') hk (sz5 c4) (fun b hb => ?_) fun out ho eo => ?_
      · have := of_decide_eq_true (List.all_eq_true.mp c3 b hb)
        simp only [id]
        omega
      · obtain ⟨ep, he'⟩ := PyProof.Rows.sortedAll_at s.heap its out.toArray
        obtain ⟨ws, w1, w2⟩ := of_each eo
        have hlen : ws.length ≤ sizeLine := by rw [w1.length, List.length_mergeSort]; exact sz5 c4
        have hn := I.hok.fresh (Nat.le_succ s.heap.objs.size)
        exact ⟨.ref _, upd H (s.heap.objs.size + 1) (.lst ws), I.laid (t' := s.toks) (fun _ _ => PyProof.Rows.sortedAll_old) (Nat.le_succ _) ⟨hlen, out, ep, w2, he'⟩, rfl, fin_lst hs hq w1 hn⟩
    · cases hf
  · cases hf
theorem cr_bi (hK : G.K = X.K) (hc : X.calm = true) (hu : X.A.units + 66 < cLine) : ∀ f : Bi, CallR X (biV f) (rC G (dBi f))
  | .len => cb_len hK
  | .abs => cb_abs
  | .int => cb_int
  | .sum => cb_sum hc
  | .min => cb_min hK hc hu
  | .max => cb_max hK hc hu
  | .any => cb_any hc
  | .all => cb_all hc
  | .sorted => cb_sorted hK hu
  | .list => cb_list hK
  | .tuple => cb_tuple hK
end
end Bw

namespace Bw
open PySem PySem.Spec PyProof.Rows L2
abbrev Fx := Rho → Option (Kd × PyData)
section
variable {G : Gm} {σ : L2.St} {H : Hp} {Q : VK}
theorem RpK.early' {k : Kd} {Hf0 H0 Hf1 H1 Hf H : Hp} {d : PyData} {v : V} (g : Gr Hf0 H0 Hf1 H1) (s : Sub Hf0 H0) (h : RpK G k Hf H1 H d v) : RpK G k Hf H0 H d v := h.early fun p hp => g.back s hp
theorem rk {Hf H0 H : Hp} {d : PyData} {v : V} (h : Rp G Hf d v) : RpK G .fz Hf H0 H d v := h
theorem vw_isN {Hf H : Hp} {d : PyData} {w : V} (h : Vw G Hf H d w) : noneB d = decide (w = .non) := by
  rcases h with z | ⟨p, rfl, _, z⟩
  · cases d with
    | none => simp only [Rp] at z; subst z; rfl
    | bool b => simp only [Rp] at z; subst z; rfl
    | int b => simp only [Rp] at z; subst z; rfl
    | str b => simp only [Rp] at z; subst z; rfl
    | list b => simp only [Rp] at z; obtain ⟨a, b, rfl, _⟩ := z; rfl
    | tuple b => simp only [Rp] at z; obtain ⟨a, b, rfl, _⟩ := z; rfl
    | dict b =>
      simp only [Rp] at z
      rcases z with ⟨a, b, rfl, _⟩ | ⟨a, b, _, rfl, _⟩ | ⟨a, b, _, rfl, _⟩ <;> rfl
  · cases d <;> first | exact z.elim | rfl
theorem x_op {f g : Fx} {op : PyData → PyData → Option (Kd × PyData)} (h : tX G (fun ρ => (f ρ).bind fun x => (g ρ).bind fun y => op x.2 y.2) σ H Q) : tOp (rB G op) (tX G f) (tX G g) σ H Q := by
  obtain ⟨Hf, ρ, k, d, S, e, q⟩ := h
  obtain ⟨x, e1, e⟩ := Option.bind_eq_some_iff.mp e
  obtain ⟨y, e2, e⟩ := Option.bind_eq_some_iff.mp e
  refine ⟨Hf, ρ, x.1, x.2, S, e1, fun v Hf1 H1 g1 r1 => ⟨Hf1, ρ, y.1, y.2, S.mono g1, e2, fun w Hf2 H2 g2 r2 => ?_⟩⟩
  exact ⟨Hf2, x.2, y.2, k, d, g2.sub, r1.vw.mono g2, r2.vw, e, fun u Hf3 H3 g3 r3 => q u Hf3 H3 ((g1.trans g2).trans g3) (r3.early' (g1.trans g2) S.sub)⟩
theorem x_const {v : V} {k : Kd} {d : PyData} {f : Fx} (hf : ∀ ρ, f ρ = some (.fz, d)) (hv : ∀ Hf, Rp G Hf d v) (h : tX G f σ H Q) : tC v σ H Q := by
  obtain ⟨Hf, ρ, k, d', S, e, q⟩ := h
  rw [hf] at e
  cases e
  exact q v Hf H (Gr.refl S.sub) (hv Hf)
theorem x_var {i : Nat} (h : tX G (fun ρ => match ρ[i]? with
    | some (some (false, d)) => some (.fz, d)
    | some (some (true, d)) => some (.bw, d)
    | _ => none) σ H Q) : tVar i σ H Q := by
  obtain ⟨Hf, ρ, k, d, S, e, q⟩ := h
  dsimp only at e
  split at e
  · rename_i d' he
    cases e
    obtain ⟨v, h1, h2⟩ := S.fz i d he
    exact ⟨v, h1, q v Hf H (Gr.refl S.sub) h2⟩
  · rename_i d' he
    cases e
    obtain ⟨p, h1, h2, h3⟩ := S.ow i d he
    exact ⟨.ref p, h1, q _ Hf H (Gr.refl S.sub) ⟨p, rfl, h2, h3⟩⟩
  · cases e
theorem x_neg {f : Fx} (h : tX G (fun ρ => (oneI (f ρ)).map fun i => (.fz, .int (-i))) σ H Q) : tUn (rU fun i => .int (-i)) (tX G f) σ H Q := by
  obtain ⟨Hf, ρ, k, d, S, e, q⟩ := h
  obtain ⟨i, e1, e2⟩ := Option.map_eq_some_iff.mp e
  cases e2
  cases hf : f ρ with
  | none => rw [hf] at e1; cases e1
  | some x =>
    obtain ⟨k', d'⟩ := x
    rw [hf] at e1
    cases d' with
    | int j =>
      cases e1
      refine ⟨Hf, ρ, k', .int i, S, hf, fun v Hf1 H1 g1 r1 => ?_⟩
      obtain rfl := vw_int r1.vw
      exact ⟨i, rfl, q _ Hf1 H1 g1 (rk rp_int)⟩
    | _ => cases e1
theorem oneI_some {o : Option (Kd × PyData)} {i : Int} (h : oneI o = some i) : ∃ k, o = some (k, .int i) := by
  cases o with
  | none => cases h
  | some x =>
    obtain ⟨k, d⟩ := x
    cases d with
    | int j => cases h; exact ⟨k, rfl⟩
    | _ => cases h
theorem bz_some {o : Option (Kd × PyData)} {i : Bool} (h : bz o = some i) : ∃ k, o = some (k, .bool i) := by
  cases o with
  | none => cases h
  | some x =>
    obtain ⟨k, d⟩ := x
    cases d with
    | bool j => cases h; exact ⟨k, rfl⟩
    | _ => cases h
theorem kz_some {o : Option (Kd × PyData)} {d : PyData} (h : kz o = some d) : ∃ k, o = some (k, d) ∧ k ≠ .bw := by
  cases o with
  | none => cases h
  | some x =>
    obtain ⟨k, d'⟩ := x
    cases k with
    | fz => cases h; exact ⟨_, rfl, (fun z => nomatch z)⟩
    | nw => cases h; exact ⟨_, rfl, (fun z => nomatch z)⟩
    | bw => cases h
/-- a value that is kept -/
theorem x_kz {f : Fx} {Hf : Hp} {ρ : Rho} {d : PyData} (S : Sl G Hf H σ ρ) (e : kz (f ρ) = some d) (q : ∀ v Hf' H', Gr Hf H Hf' H' → Rp G Hf' d v → Q v H') : tX G f σ H Q := by
  obtain ⟨k, e1, hk⟩ := kz_some e
  refine ⟨Hf, ρ, k, d, S, e1, fun v Hf' H' g r => ?_⟩
  obtain ⟨Hf2, g2, _, r2⟩ := r.keep g hk
  exact q v Hf2 H' g2 r2
theorem x_bool {f : Fx} {Hf : Hp} {ρ : Rho} {b : Bool} (S : Sl G Hf H σ ρ) (e : bz (f ρ) = some b) (q : ∀ Hf' H', Gr Hf H Hf' H' → Q (.bl b) H') : tX G f σ H Q := by
  obtain ⟨k, e1⟩ := bz_some e
  refine ⟨Hf, ρ, k, _, S, e1, fun v Hf' H' g r => ?_⟩
  obtain rfl := vw_bl r.vw
  exact q Hf' H' g
theorem x_int {f : Fx} {Hf : Hp} {ρ : Rho} {b : Int} (S : Sl G Hf H σ ρ) (e : oneI (f ρ) = some b) (q : ∀ Hf' H', Gr Hf H Hf' H' → Q (.int b) H') : tX G f σ H Q := by
  obtain ⟨k, e1⟩ := oneI_some e
  refine ⟨Hf, ρ, k, _, S, e1, fun v Hf' H' g r => ?_⟩
  obtain rfl := vw_int r.vw
  exact q Hf' H' g
theorem x_view {f : Fx} {Hf : Hp} {ρ : Rho} {x : Kd × PyData} (S : Sl G Hf H σ ρ) (e : f ρ = some x) (q : ∀ v Hf' H', Gr Hf H Hf' H' → RpK G x.1 Hf' H H' x.2 v → Q v H') : tX G f σ H Q := ⟨Hf, ρ, x.1, x.2, S, e, q⟩
/-- tests -/
theorem x_test {f : Fx} {Qb : Bool → Hp → Prop} (h : tT G (fun ρ => bz (f ρ)) σ H Qb) : tTest (tX G f) σ H Qb := by
  obtain ⟨Hf, ρ, b, S, e, q⟩ := h
  exact x_bool S e fun Hf' H' g => ⟨b, rfl, q Hf' H' g⟩
theorem x_isN {f : Fx} (h : tX G (fun ρ => (f ρ).map fun x => (.fz, .bool (noneB x.2))) σ H Q) : tOp (fun x y H Q => y = .non ∧ Q (.bl (decide (x = .non))) H) (tX G f) (tC .non) σ H Q := by
  obtain ⟨Hf, ρ, k, d, S, e, q⟩ := h
  obtain ⟨x, e1, e2⟩ := Option.map_eq_some_iff.mp e
  cases e2
  refine x_view S e1 fun w Hf1 H1 g1 r1 => ⟨rfl, q _ Hf1 H1 g1 ?_⟩
  rw [vw_isN r1.vw]
  exact rk rp_bl
theorem x_notN {f : Fx} (h : tX G (fun ρ => (f ρ).map fun x => (.fz, .bool (!noneB x.2))) σ H Q) : tOp (fun x y H Q => y = .non ∧ Q (.bl (!decide (x = .non))) H) (tX G f) (tC .non) σ H Q := by
  obtain ⟨Hf, ρ, k, d, S, e, q⟩ := h
  obtain ⟨x, e1, e2⟩ := Option.map_eq_some_iff.mp e
  cases e2
  refine x_view S e1 fun w Hf1 H1 g1 r1 => ⟨rfl, q _ Hf1 H1 g1 ?_⟩
  rw [vw_isN r1.vw]
  exact rk rp_bl
theorem x_chain {f g h' : Fx} {o o' : PyData → PyData → Option Bool} (h : tX G (fun ρ => (f ρ).bind fun x => (g ρ).bind fun y => (o x.2 y.2).bind fun r =>
      if r = true then (h' ρ).bind fun z => (o' y.2 z.2).map fun r => (.fz, .bool r) else some (.fz, .bool false)) σ H Q) :
    tChain (rB G fun d e => (o d e).map fun b => (.fz, .bool b)) (rB G fun d e => (o' d e).map fun b => (.fz, .bool b)) (tX G f) (tX G g) (tX G h') σ H Q := by
  obtain ⟨Hf, ρ, k, d, S, e, q⟩ := h
  obtain ⟨x, e1, e⟩ := Option.bind_eq_some_iff.mp e
  obtain ⟨y, e2, e⟩ := Option.bind_eq_some_iff.mp e
  obtain ⟨r, e3, e⟩ := Option.bind_eq_some_iff.mp e
  refine x_view S e1 fun v Hf1 H1 g1 r1 => x_view (S.mono g1) e2 fun w Hf2 H2 g2 r2 => ?_
  refine ⟨Hf2, x.2, y.2, .fz, .bool r, g2.sub, r1.vw.mono g2, r2.vw, by simp only [e3]; rfl, fun u Hf3 H3 g3 r3 => ?_⟩
  simp only [RpK, Rp] at r3
  subst r3
  refine ⟨r, rfl, ?_⟩
  cases r with
  | true =>
    rw [if_pos rfl] at e ⊢
    obtain ⟨z, e4, e⟩ := Option.bind_eq_some_iff.mp e
    refine x_view ((S.mono g1).mono (g2.trans g3)) e4 fun w' Hf4 H4 g4 r4 => ?_
    exact ⟨Hf4, y.2, z.2, k, d, g4.sub, (r2.vw.mono g3).mono g4, r4.vw, e, fun u Hf5 H5 g5 r5 => q u Hf5 H5 ((((g1.trans g2).trans g3).trans g4).trans g5) (r5.early' (((g1.trans g2).trans g3).trans g4) S.sub)⟩
  | false =>
    rw [if_neg Bool.false_ne_true] at e ⊢
    cases e
    exact q _ Hf3 H3 ((g1.trans g2).trans g3) (rk rp_bl)
theorem x_ite {f g : Fx} {t : Rho → Option Bool} (h : tX G (fun ρ => (t ρ).bind fun r => if r = true then f ρ else g ρ) σ H Q) : tIf (tT G t) (tX G f) (tX G g) σ H Q := by
  obtain ⟨Hf, ρ, k, d, S, e, q⟩ := h
  obtain ⟨r, e1, e⟩ := Option.bind_eq_some_iff.mp e
  refine ⟨Hf, ρ, r, S, e1, fun Hf1 H1 g1 => ?_⟩
  cases r with
  | true =>
    rw [if_pos rfl] at e ⊢
    exact ⟨Hf1, ρ, k, d, S.mono g1, e, fun v Hf' H' g2 r2 => q v Hf' H' (g1.trans g2) (r2.early' g1 S.sub)⟩
  | false =>
    rw [if_neg Bool.false_ne_true] at e ⊢
    exact ⟨Hf1, ρ, k, d, S.mono g1, e, fun v Hf' H' g2 r2 => q v Hf' H' (g1.trans g2) (r2.early' g1 S.sub)⟩
/-! and, or, not -/
theorem x_not {f : Fx} (h : tX G (fun ρ => (bz (f ρ)).map fun b => (.fz, .bool (!b))) σ H Q) : tNotV (tX G f) σ H Q := by
  obtain ⟨Hf, ρ, k, d, S, e, q⟩ := h
  obtain ⟨b, e1, e2⟩ := Option.map_eq_some_iff.mp e
  cases e2
  exact x_bool S e1 fun Hf' H' g => ⟨b, rfl, q _ Hf' H' g (rk rp_bl)⟩
theorem t_not {t : Rho → Option Bool} {Qb : Bool → Hp → Prop} (h : tT G (fun ρ => (t ρ).map fun b => !b) σ H Qb) : tNot (tT G t) σ H Qb := by
  obtain ⟨Hf, ρ, b, S, e, q⟩ := h
  obtain ⟨b', e1, e2⟩ := Option.map_eq_some_iff.mp e
  subst e2
  exact ⟨Hf, ρ, b', S, e1, fun Hf' H' g => q Hf' H' g⟩
theorem x_and {f : Fx} {g : Rho → Option Bool} (h : tX G (fun ρ => ((bz (f ρ)).bind fun b => if b = true then g ρ else some false).map fun b => (.fz, .bool b)) σ H Q) :
    tAndV (tX G f) (tX G fun ρ => (g ρ).map fun b => (.fz, .bool b)) σ H Q := by
  obtain ⟨Hf, ρ, k, d, S, e, q⟩ := h
  obtain ⟨b, e1, e2⟩ := Option.map_eq_some_iff.mp e
  cases e2
  obtain ⟨c, e3, e4⟩ := Option.bind_eq_some_iff.mp e1
  refine x_bool S e3 fun Hf' H' g1 => ⟨c, rfl, ?_⟩
  cases c with
  | true =>
    rw [if_pos rfl] at e4 ⊢
    exact ⟨Hf', ρ, .fz, .bool b, S.mono g1, by simp only [e4]; rfl, fun v Hf2 H2 g2 r2 => q v Hf2 H2 (g1.trans g2) r2⟩
  | false =>
    rw [if_neg Bool.false_ne_true] at e4 ⊢
    cases e4
    exact q _ Hf' H' g1 (rk rp_bl)
theorem x_or {f : Fx} {g : Rho → Option Bool} (h : tX G (fun ρ => ((bz (f ρ)).bind fun b => if b = true then some true else g ρ).map fun b => (.fz, .bool b)) σ H Q) :
    tOrV (tX G f) (tX G fun ρ => (g ρ).map fun b => (.fz, .bool b)) σ H Q := by
  obtain ⟨Hf, ρ, k, d, S, e, q⟩ := h
  obtain ⟨b, e1, e2⟩ := Option.map_eq_some_iff.mp e
  cases e2
  obtain ⟨c, e3, e4⟩ := Option.bind_eq_some_iff.mp e1
  refine x_bool S e3 fun Hf' H' g1 => ⟨c, rfl, ?_⟩
  cases c with
  | true =>
    rw [if_pos rfl] at e4 ⊢
    cases e4
    exact q _ Hf' H' g1 (rk rp_bl)
  | false =>
    rw [if_neg Bool.false_ne_true] at e4 ⊢
    exact ⟨Hf', ρ, .fz, .bool b, S.mono g1, by simp only [e4]; rfl, fun v Hf2 H2 g2 r2 => q v Hf2 H2 (g1.trans g2) r2⟩
theorem t_and {f g : Rho → Option Bool} {Qb : Bool → Hp → Prop} (h : tT G (fun ρ => (f ρ).bind fun b => if b = true then g ρ else some false) σ H Qb) : tAnd (tT G f) (tT G g) σ H Qb := by
  obtain ⟨Hf, ρ, b, S, e, q⟩ := h
  obtain ⟨c, e3, e4⟩ := Option.bind_eq_some_iff.mp e
  refine ⟨Hf, ρ, c, S, e3, fun Hf' H' g1 => ?_⟩
  cases c with
  | true =>
    rw [if_pos rfl] at e4 ⊢
    exact ⟨Hf', ρ, b, S.mono g1, e4, fun Hf2 H2 g2 => q Hf2 H2 (g1.trans g2)⟩
  | false =>
    rw [if_neg Bool.false_ne_true] at e4 ⊢
    cases e4
    exact q Hf' H' g1
theorem t_or {f g : Rho → Option Bool} {Qb : Bool → Hp → Prop} (h : tT G (fun ρ => (f ρ).bind fun b => if b = true then some true else g ρ) σ H Qb) : tOr (tT G f) (tT G g) σ H Qb := by
  obtain ⟨Hf, ρ, b, S, e, q⟩ := h
  obtain ⟨c, e3, e4⟩ := Option.bind_eq_some_iff.mp e
  refine ⟨Hf, ρ, c, S, e3, fun Hf' H' g1 => ?_⟩
  cases c with
  | true =>
    rw [if_pos rfl] at e4 ⊢
    cases e4
    exact q Hf' H' g1
  | false =>
    rw [if_neg Bool.false_ne_true] at e4 ⊢
    exact ⟨Hf', ρ, b, S.mono g1, e4, fun Hf2 H2 g2 => q Hf2 H2 (g1.trans g2)⟩
/-! arguments -/
theorem xs_nil {Qs : List V → Hp → Prop} (h : tXs G (fun _ => some []) σ H Qs) : tNil σ H Qs := by
  obtain ⟨Hf, ρ, ds, S, e, q⟩ := h
  cases e
  exact q [] Hf H (Gr.refl S.sub) rfl
theorem xs_cons {f : Fx} {g : Rho → Option (List PyData)} {Qs : List V → Hp → Prop} (h : tXs G (fun ρ => (f ρ).bind fun d => (g ρ).map fun ds => d.2 :: ds) σ H Qs) : tCons (tX G f) (tXs G g) σ H Qs := by
  obtain ⟨Hf, ρ, ds, S, e, q⟩ := h
  obtain ⟨x, e1, e⟩ := Option.bind_eq_some_iff.mp e
  obtain ⟨r, e2, e3⟩ := Option.map_eq_some_iff.mp e
  subst e3
  refine x_view S e1 fun v Hf1 H1 g1 r1 => ⟨Hf1, ρ, r, S.mono g1, e2, fun vs Hf2 H2 g2 r2 => q _ Hf2 H2 (g1.trans g2) ⟨v, vs, rfl, r1.vw.mono g2, r2⟩⟩
theorem fs_nil {Qs : List V → Hp → Prop} (h : tFs G (fun _ => some []) σ H Qs) : tNil σ H Qs := by
  obtain ⟨Hf, ρ, ds, S, e, q⟩ := h
  cases e
  exact q [] Hf H (Gr.refl S.sub) RpL.nil
theorem fs_cons {f : Fx} {g : Rho → Option (List PyData)} {Qs : List V → Hp → Prop} (h : tFs G (fun ρ => (kz (f ρ)).bind fun d => (g ρ).map fun ds => d :: ds) σ H Qs) : tCons (tX G f) (tFs G g) σ H Qs := by
  obtain ⟨Hf, ρ, ds, S, e, q⟩ := h
  obtain ⟨x, e1, e⟩ := Option.bind_eq_some_iff.mp e
  obtain ⟨r, e2, e3⟩ := Option.map_eq_some_iff.mp e
  subst e3
  refine x_kz S e1 fun v Hf1 H1 g1 r1 => ⟨Hf1, ρ, r, S.mono g1, e2, fun vs Hf2 H2 g2 r2 => q _ Hf2 H2 (g1.trans g2) (RpL.cons (r1.mono g2.fx) r2)⟩
theorem x_tup {f : Rho → Option (List PyData)} (h : tX G (fun ρ => (f ρ).bind fun ds => (fewD ds).map fun ds => (.fz, .tuple ds)) σ H Q) : tTup (tFs G f) σ H Q := by
  obtain ⟨Hf, ρ, k, d, S, e, q⟩ := h
  obtain ⟨ds, e1, e⟩ := Option.bind_eq_some_iff.mp e
  obtain ⟨ds', e2, e3⟩ := Option.map_eq_some_iff.mp e
  cases e3
  unfold fewD at e2
  split at e2
  · rename_i c
    cases e2
    refine ⟨Hf, ρ, ds, S, e1, fun vs Hf1 H1 g1 r1 => ⟨by rw [r1.length]; exact sz5 c, fun p hp => ?_⟩⟩
    exact fin_tup g1.sub (fun v Hf' H' g2 r2 => q v Hf' H' (g1.trans g2) (r2.early' g1 S.sub)) r1 hp
  · cases e2
theorem x_lst {f : Rho → Option (List PyData)} (h : tX G (fun ρ => (f ρ).bind fun ds => (fewD ds).map fun ds => (.nw, .list ds)) σ H Q) : tLst (tFs G f) σ H Q := by
  obtain ⟨Hf, ρ, k, d, S, e, q⟩ := h
  obtain ⟨ds, e1, e⟩ := Option.bind_eq_some_iff.mp e
  obtain ⟨ds', e2, e3⟩ := Option.map_eq_some_iff.mp e
  cases e3
  unfold fewD at e2
  split at e2
  · rename_i c
    cases e2
    refine ⟨Hf, ρ, ds, S, e1, fun vs Hf1 H1 g1 r1 => ⟨by rw [r1.length]; exact sz5 c, fun p hp => ?_⟩⟩
    exact fin_lst g1.sub (fun v Hf' H' g2 r2 => q v Hf' H' (g1.trans g2) (r2.early' g1 S.sub)) r1 hp
  · cases e2
theorem x_cb {f : Rho → Option (List PyData)} {b : List PyData → Option (Kd × PyData)} (h : tX G (fun ρ => (f ρ).bind fun ds => b ds) σ H Q) : tCB (rC G b) (tXs G f) σ H Q := by
  obtain ⟨Hf, ρ, k, d, S, e, q⟩ := h
  obtain ⟨ds, e1, e⟩ := Option.bind_eq_some_iff.mp e
  exact ⟨Hf, ρ, ds, S, e1, fun vs Hf1 H1 g1 r1 => ⟨Hf1, ds, k, d, g1.sub, r1, e, fun v Hf' H' g2 r2 => q v Hf' H' (g1.trans g2) (r2.early' g1 S.sub)⟩⟩
/-! what a def promises: what the evaluator says -/
def spD (G : Gm) (n : Nat) (f : List PyData → Option PyData) : Sp := fun vs H Q _ => vs.length = n ∧ ∃ Hf ds d, Sub Hf H ∧ RpL G Hf ds vs ∧ f ds = some d ∧ ∀ v Hf' H', Gr Hf H Hf' H' → Rp G Hf' d v → Q v H'
theorem x_call {f : Rho → Option (List PyData)} {b : List PyData → Option PyData} {n : Nat} (hn : ∀ ρ ds, f ρ = some ds → ds.length = n) (h : tX G (fun ρ => (f ρ).bind fun ds => (b ds).map fun d => (.fz, d)) σ H Q) : tCall (spD G n b) [] E0 (tFs G f) σ H Q := by
  obtain ⟨Hf, ρ, k, d, S, e, q⟩ := h
  obtain ⟨ds, e1, e⟩ := Option.bind_eq_some_iff.mp e
  obtain ⟨r, e2, e3⟩ := Option.map_eq_some_iff.mp e
  cases e3
  refine ⟨Hf, ρ, ds, S, e1, fun vs Hf1 H1 g1 r1 => ?_⟩
  show spD G n b (vs ++ []) H1 Q E0
  rw [List.append_nil]
  exact ⟨by rw [r1.length, hn ρ ds e1], Hf1, ds, d, g1.sub, r1, e2, fun v Hf' H' g2 r2 => q v Hf' H' (g1.trans g2) r2⟩
end
end Bw

namespace Bw
open PySem PySem.Spec PyProof.Rows L2
/-! subscripts -/
section
variable {X : Cx} {G : Gm} {σ : L2.St} {H : Hp} {Q : VK}
theorem atI_rp {Hf : Hp} {ds : List PyData} {vs : List V} {i : Int} {d : PyData} (h : RpL G Hf ds vs) (e : atI ds i = some d) : ∃ v, atI vs i = some v ∧ Rp G Hf d v := by
  unfold atI at e ⊢
  rw [h.length]
  cases hn : ixN ds.length i with
  | none => rw [hn] at e; cases e
  | some j =>
    rw [hn] at e
    exact h.get (show ds[j]? = some d from e)
/-- a list or a tuple at a place -/
def ixS (d e : PyData) : Option (Kd × PyData) := match d, e with
  | .list xs, .int i => (atI xs i).map fun r => (.fz, r)
  | .tuple xs, .int i => (atI xs i).map fun r => (.fz, r)
  | _, _ => none
theorem ix_data (hK : G.K = X.K) : IxR X (rB G ixS) := by
  intro value slice pins s σ H x y v u Q I rx ry h hs
  obtain ⟨Hf, d, e, k, r, hsub, vx, vy, hf, hq⟩ := h
  unfold ixS at hf
  split at hf
  · obtain ⟨r', e1, e2⟩ := Option.map_eq_some_iff.mp hf
    cases e2
    obtain rfl := vw_int vy
    obtain ⟨p, xs, rfl, t1, r1⟩ := vw_list hsub vx
    obtain ⟨w, h1, h2⟩ := atI_rp r1 e1
    exact ix_list value slice pins s σ H _ _ v u Q I rx ry ⟨p, xs, _, w, rfl, rfl, .inl (.inl t1), h1, fin_fz hsub hq h2⟩ hs
  · obtain ⟨r', e1, e2⟩ := Option.map_eq_some_iff.mp hf
    cases e2
    obtain rfl := vw_int vy
    obtain ⟨p, xs, rfl, t1, r1⟩ := vw_tuple hsub vx
    rw [hK] at t1
    obtain ⟨w, h1, h2⟩ := atI_rp r1 e1
    exact ix_tup value slice pins s σ H _ _ v u Q I rx ry ⟨p, xs, _, w, rfl, rfl, t1, h1, fin_fz hsub hq h2⟩ hs
  · cases hf
def isDict : PyData → Bool
  | .dict _ => true
  | _ => false
theorem PE.or {e : Expr} {t u : TE} (h : PE X e t) (k : PE X e u) : PE X e fun σ H Q => t σ H Q ∨ u σ H Q := ⟨fun pins s σ H Q I q => q.elim (h.run pins s σ H Q I) (k.run pins s σ H Q I)⟩
theorem x_idx {f g : Fx} (h : tX G (fun ρ => (f ρ).bind fun x => (g ρ).bind fun y => (dIdx x.2 y.2).map fun d => (.fz, d)) σ H Q) : tOp (rB G ixS) (tX G f) (tX G g) σ H Q ∨ tDGet (tX G f) (tX G g) σ H Q := by
  obtain ⟨Hf, ρ, k, d, S, e, q⟩ := h
  obtain ⟨x, e1, e⟩ := Option.bind_eq_some_iff.mp e
  obtain ⟨y, e2, e⟩ := Option.bind_eq_some_iff.mp e
  obtain ⟨r, e3, e4⟩ := Option.map_eq_some_iff.mp e
  cases e4
  unfold dIdx at e3
  split at e3
  · rename_i l i h1 h2
    refine .inl (x_op ⟨Hf, ρ, .fz, _, S, ?_, q⟩)
    simp only [e1, e2, Option.bind_some, h1, h2, ixS, e3, Option.map_some]
  · rename_i l i h1 h2
    refine .inl (x_op ⟨Hf, ρ, .fz, _, S, ?_, q⟩)
    simp only [e1, e2, Option.bind_some, h1, h2, ixS, e3, Option.map_some]
  · rename_i kvs h1
    split at e3
    · rename_i c
      refine .inr (x_view S e1 fun v Hf1 H1 g1 r1 => x_view (S.mono g1) e2 fun w Hf2 H2 g2 r2 => ?_)
      have vx := r1.vw.mono g2
      rw [h1] at vx
      obtain ⟨p, ks, rfl, t1, rd⟩ := vw_dict g2.sub vx c.2
      obtain ⟨kk, _, hk, rfl⟩ := key_rp c.1 r2.vw
      obtain ⟨o, hg, ho⟩ := look_get (k := kk) t1 rd
      rw [hk, e3] at ho
      obtain ⟨z, rfl, hz⟩ := ho
      exact ⟨p, z, rfl, hg, q _ Hf2 H2 (g1.trans g2) hz⟩
    · cases e3
  · cases e3
/-! slices -/
def tP (G : Gm) (f : Rho → Option (Option Int)) : TO := fun σ H Q => ∃ Hf ρ o, Sl G Hf H σ ρ ∧ f ρ = some o ∧ ∀ Hf' H', Gr Hf H Hf' H' → Q o H'
theorem p_none {Qo : Option Int → Hp → Prop} (h : tP G (fun _ => some none) σ H Qo) : tNoPart σ H Qo := by
  obtain ⟨Hf, ρ, o, S, e, q⟩ := h
  cases e
  exact q Hf H (Gr.refl S.sub)
theorem p_some {f : Fx} {Qo : Option Int → Hp → Prop} (h : tP G (fun ρ => (oneI (f ρ)).map some) σ H Qo) : tPart (tX G f) σ H Qo := by
  obtain ⟨Hf, ρ, o, S, e, q⟩ := h
  obtain ⟨i, e1, e2⟩ := Option.map_eq_some_iff.mp e
  subst e2
  exact x_int S e1 fun Hf' H' g => ⟨i, rfl, q Hf' H' g⟩
def rSl (G : Gm) : V → Option Int → Option Int → Hp → VK → Prop := fun x lo hi H Q => ∃ Hf d k r, Sub Hf H ∧ Vw G Hf H d x ∧ dSl d lo hi = some (k, r) ∧ ∀ v Hf' H', Gr Hf H Hf' H' → RpK G k Hf' H H' r v → Q v H'
theorem RpL.cut {Hf : Hp} {ds : List PyData} {vs : List V} (h : RpL G Hf ds vs) (lo hi : Option Int) : RpL G Hf (cutD ds lo hi) (cutV vs lo hi) := by
  unfold cutD cutV
  rw [h.length]
  exact (h.drop _).take _
theorem ints_rpL {Hf : Hp} : ∀ ns : List Int, RpL G Hf (ns.map PyData.int) (ns.map V.int)
  | [] => RpL.nil
  | n :: ns => RpL.cons rp_int (ints_rpL ns)
theorem cut_whole {α : Type} (xs : List α) (lo hi : Option Int) (h : HT.sIx xs.length 0 lo = 0 ∧ HT.sIx xs.length xs.length hi = xs.length) : (xs.drop (HT.sIx xs.length 0 lo)).take (HT.sIx xs.length xs.length hi - HT.sIx xs.length 0 lo) = xs := by
  rw [h.1, h.2]; simp
theorem sl_data (hK : G.K = X.K) : SlR X (rSl G) := by
  intro pins s σ H x v vl vu lo hi sl Q I rx hsl pl pu h
  obtain ⟨Hf, d, k, r, hs, vx, hf, hq⟩ := h
  unfold dSl at hf
  split at hf
  · cases hf
    obtain ⟨p, xs, rfl, t1, r1⟩ := vw_list hs vx
    exact sl_list pins s σ H _ v vl vu lo hi sl Q I rx hsl pl pu ⟨p, xs, rfl, .inl (.inl t1), fun q hq' => fin_lst hs hq (r1.cut lo hi) hq'⟩
  · cases hf
    have vx0 := vx
    obtain ⟨p, xs, rfl, t1, r1⟩ := vw_tuple hs vx
    rw [hK] at t1
    refine sl_tupA pins s σ H _ v vl vu lo hi sl Q I rx hsl pl pu ⟨p, xs, rfl, t1, fun hw => ?_, fun _ q hq' => fin_tup hs hq (r1.cut lo hi) hq'⟩
    refine fin_fz hs hq ?_
    rw [r1.length] at hw
    unfold cutD
    rw [cut_whole _ lo hi hw]
    rcases vx0 with z | ⟨_, _, _, z⟩
    · exact z
    · exact z.elim
  · cases hf
    rename_i ys
    rcases vx with z | ⟨p, _, _, z⟩
    · simp only [Rp] at z
      rcases z with ⟨a, ks, _, _, z⟩ | ⟨_, _, z, _⟩ | ⟨ns, a, z, rfl, z2⟩
      · simp only [RpD] at z
        obtain ⟨kk, w, r, _, hk, _⟩ := z
        rcases kk with i | i <;> cases hk
      · cases z
      · cases z
        rw [hK] at z2
        exact sl_list pins s σ H _ v vl vu lo hi sl Q I rx hsl pl pu ⟨a, _, rfl, by
          rcases z2 with (z2 | ⟨o, z2⟩) | z2
          · rcases hs a _ z2 with z2 | ⟨z, _⟩
            · exact .inl (.inl z2)
            · exact z.elim
          · rcases hs a _ z2 with z2 | ⟨z, _⟩
            · exact .inl (.inr ⟨o, z2⟩)
            · exact z.elim
          · exact .inr z2, fun q hq' => fin_lst hs hq ((ints_rpL ns).cut lo hi) hq'⟩
    · obtain ⟨ks, _, z⟩ := z
      simp only [RpD] at z
      obtain ⟨kk, w, r, _, hk, _⟩ := z
      rcases kk with i | i <;> cases hk
  · cases hf
theorem x_sl {f : Fx} {l h' : Rho → Option (Option Int)} (h : tX G (fun ρ => (f ρ).bind fun x => (l ρ).bind fun l => (h' ρ).bind fun h => dSl x.2 l h) σ H Q) : tSl (rSl G) (tX G f) (tP G l) (tP G h') σ H Q := by
  obtain ⟨Hf, ρ, k, d, S, e, q⟩ := h
  obtain ⟨x, e1, e⟩ := Option.bind_eq_some_iff.mp e
  obtain ⟨y, e2, e⟩ := Option.bind_eq_some_iff.mp e
  obtain ⟨r, e3, e⟩ := Option.bind_eq_some_iff.mp e
  refine x_view S e1 fun v Hf1 H1 g1 r1 => ⟨Hf1, ρ, y, S.mono g1, e2, fun Hf2 H2 g2 => ⟨Hf2, ρ, r, (S.mono g1).mono g2, e3, fun Hf3 H3 g3 => ?_⟩⟩
  exact ⟨Hf3, x.2, k, d, g3.sub, r1.vw.mono (g2.trans g3), e, fun u Hf4 H4 g4 r4 => q u Hf4 H4 (((g1.trans g2).trans g3).trans g4) (r4.early' ((g1.trans g2).trans g3) S.sub)⟩
/-! dicts -/
theorem x_dget {f g h' : Fx} (h : tX G (fun ρ => (f ρ).bind fun a => (g ρ).bind fun y => (kz (h' ρ)).bind fun z => match a.2 with
    | .dict kvs => if isKey y.2 = true ∧ realD kvs = true then some (.fz, (lookD kvs y.2).getD z) else none
    | _ => none) σ H Q) : tDGet2 (tX G f) (tX G g) (tX G h') σ H Q := by
  obtain ⟨Hf, ρ, k, d, S, e, q⟩ := h
  obtain ⟨x, e1, e⟩ := Option.bind_eq_some_iff.mp e
  obtain ⟨y, e2, e⟩ := Option.bind_eq_some_iff.mp e
  obtain ⟨z, e3, e⟩ := Option.bind_eq_some_iff.mp e
  split at e
  · rename_i kvs hx
    split at e
    · rename_i c
      cases e
      refine x_view S e1 fun v Hf1 H1 g1 r1 => ?_
      have vx := r1.vw
      rw [hx] at vx
      obtain ⟨p, ks, rfl, t1, rd⟩ := vw_dict g1.sub vx c.2
      refine ⟨p, rfl, .inl ⟨ks, t1⟩, x_view (S.mono g1) e2 fun w Hf2 H2 g2 r2 => x_kz ((S.mono g1).mono g2) e3 fun u Hf3 H3 g3 r3 => ?_⟩
      obtain ⟨kk, _, hk, rfl⟩ := key_rp c.1 r2.vw
      obtain ⟨p', ks', ep, t1', rd'⟩ := vw_dict g3.sub ((vx.mono g2).mono g3) c.2
      cases ep
      obtain ⟨o, hg, ho⟩ := look_get (k := kk) t1' rd'
      refine ⟨o, hg, ?_⟩
      rw [hk] at ho
      cases hl : lookD kvs y.2 with
      | none =>
        rw [hl] at ho q
        simp only at ho
        subst ho
        exact q _ Hf3 H3 ((g1.trans g2).trans g3) r3
      | some d' =>
        rw [hl] at ho q
        obtain ⟨w', rfl, hw⟩ := ho
        exact q _ Hf3 H3 ((g1.trans g2).trans g3) hw
    · cases e
  · cases e
end
end Bw

namespace Bw
open PySem PySem.Spec PyProof.Rows L2
/-! what is walked -/
/-- the walk J gives the data ds; fl: it leans on things that are not frozen -/
def Wk (G : Gm) (J : L2.It) (fl : Bool) (Hf H : Hp) (ds : List PyData) : Prop := ∃ as : List Addr, (fl = false → as = []) ∧ (∀ a ∈ as, Hf a = none ∧ ∃ o, H a = some o) ∧
  ∀ Hf' H', Ex Hf Hf' → Sub Hf' H' → Lk H H' → (∀ a ∈ as, H' a = H a) → (∀ i, i < ds.length → J.go i H') ∧ (∀ i, ds.length ≤ i → J.stop i H') ∧
    ∀ i x H'', i < ds.length → J.yld i H' x H'' → ∃ Hf'' d, ds[i]? = some d ∧ Gr Hf' H' Hf'' H'' ∧ Rp G Hf'' d x
def tI (G : Gm) (f : Rho → Option (Bool × List PyData)) : TI := fun σ H R => ∃ Hf ρ fl ds, Sl G Hf H σ ρ ∧ f ρ = some (fl, ds) ∧ ∀ J Hf' H', Gr Hf H Hf' H' → Wk G J fl Hf' H' ds → R J H'
/-- an object that a walk leans on -/
def Pin (fl : Bool) (Hf H : Hp) (p : Addr) (o : HO) : Prop := H p = some o ∧ (if fl = true then Hf p = none else Hf p = some o)
theorem Pin.mono {fl : Bool} {Hf H Hf' H' : Hp} {p : Addr} {o : HO} (h : Pin fl Hf H p o) (g : Gr Hf H Hf' H') (hl : ¬ isD o) : Pin fl Hf' H' p o := by
  obtain ⟨h1, h2⟩ := h
  cases fl with
  | true =>
    rw [if_pos rfl] at h2
    obtain ⟨a, b⟩ := g.un p o h1 h2
    exact ⟨b, by rw [if_pos rfl]; exact a⟩
  | false =>
    rw [if_neg Bool.false_ne_true] at h2
    have := g.fx p o h2
    refine ⟨?_, by rw [if_neg Bool.false_ne_true]; exact this⟩
    rcases g.sub p o this with z | ⟨z, _⟩
    · exact z
    · exact absurd z hl
def pinAs (fl : Bool) (p : Addr) : List Addr := if fl = true then [p] else []
theorem Pin.stays {fl : Bool} {Hf H Hf' H' : Hp} {p : Addr} {o : HO} (h : Pin fl Hf H p o) (hl : ¬ isD o) (e : Ex Hf Hf') (s : Sub Hf' H') (k : ∀ a ∈ pinAs fl p, H' a = H a) : H' p = some o := by
  obtain ⟨h1, h2⟩ := h
  cases fl with
  | true => rw [k p (by simp [pinAs]), h1]
  | false =>
    rw [if_neg Bool.false_ne_true] at h2
    rcases s p o (e p o h2) with z | ⟨z, _⟩
    · exact z
    · exact absurd z hl
theorem Pin.as {fl : Bool} {Hf H : Hp} {p : Addr} {o : HO} (h : Pin fl Hf H p o) : (fl = false → pinAs fl p = []) ∧ ∀ a ∈ pinAs fl p, Hf a = none ∧ ∃ o, H a = some o := by
  obtain ⟨h1, h2⟩ := h
  cases fl with
  | true =>
    rw [if_pos rfl] at h2
    refine ⟨(fun z => by cases z), fun a ha => ?_⟩
    have : a = p := by simpa [pinAs] using ha
    subst this
    exact ⟨h2, _, h1⟩
  | false => exact ⟨fun _ => rfl, fun a ha => absurd ha (by simp [pinAs])⟩
section
variable {G : Gm}
theorem avail_list {k : Kd} {Hf0 H0 Hf H : Hp} {ds : List PyData} {v : V} (g : Gr Hf0 H0 Hf H) (h : RpK G k Hf H0 H (.list ds) v) : ∃ Hf' p xs, v = .ref p ∧ Gr Hf0 H0 Hf' H ∧ Ex Hf Hf' ∧ RpL G Hf' ds xs ∧ Pin (k == .bw) Hf' H p (.lst xs) := by
  cases k with
  | fz =>
    simp only [RpK, Rp] at h
    obtain ⟨p, xs, rfl, h1, h2⟩ := h
    exact ⟨Hf, p, xs, rfl, g, Ex.refl _, h2, g.sub.lst h1, by rw [if_neg (by decide)]; exact h1⟩
  | nw =>
    obtain ⟨p, rfl, n, a, xs, h1, h2⟩ := h
    exact ⟨upd Hf p (.lst xs), p, xs, rfl, g.frz n h1 a, Ex.new a, h2.mono (Ex.new a), h1, by rw [if_neg (by decide)]; exact upd_same⟩
  | bw =>
    obtain ⟨p, rfl, a, xs, h1, h2⟩ := h
    exact ⟨Hf, p, xs, rfl, g, Ex.refl _, h2, h1, by rw [if_pos (by decide)]; exact a⟩
theorem rp_tuple {Hf : Hp} {ds : List PyData} {v : V} (h : Rp G Hf (.tuple ds) v) : ∃ p xs, v = .ref p ∧ SqT G.K Hf p xs ∧ RpL G Hf ds xs := by
  simp only [Rp] at h; exact h
theorem rpk_tuple {k : Kd} {Hf H0 H : Hp} {ds : List PyData} {v : V} (h : RpK G k Hf H0 H (.tuple ds) v) : Rp G Hf (.tuple ds) v := by
  rcases h.vw with z | ⟨_, _, _, z⟩
  · exact z
  · exact z.elim
theorem sqL_of {K : PySem.W.Frag} {H : Hp} {p : Addr} {xs : List V} (h : H p = some (.lst xs)) : SqL K H p xs := .inl (.inl h)
theorem wk_list {fl : Bool} {Hf H : Hp} {p : Addr} {xs : List V} {ds : List PyData} (pin : Pin fl Hf H p (.lst xs)) (r : RpL G Hf ds xs) : Wk G (Itl G.K p) fl Hf H ds := by
  refine ⟨pinAs fl p, pin.as.1, pin.as.2, fun Hf' H' e s l k => ?_⟩
  have hp := pin.stays (fun z => z) e s k
  have r' := r.mono e
  refine ⟨fun i hi => ⟨xs, xs[i]'(by rw [r.length]; exact hi), sqL_of hp, List.getElem?_eq_getElem _⟩, fun i hi => ⟨xs, sqL_of hp, by rw [r.length]; exact hi⟩, fun i x H'' hi y => ?_⟩
  obtain ⟨rfl, y⟩ := y
  obtain ⟨d, hd, rp⟩ := r'.getV (y xs (sqL_of hp))
  exact ⟨Hf', d, hd, Gr.refl s, rp⟩
theorem wk_tup {Hf H : Hp} {p : Addr} {xs : List V} {ds : List PyData} (t : SqT G.K Hf p xs) (r : RpL G Hf ds xs) : Wk G (Itt G.K p) false Hf H ds := by
  refine ⟨[], fun _ => rfl, fun a ha => absurd ha (by simp), fun Hf' H' e s l k => ?_⟩
  have hp := s.t (e.t t)
  have r' := r.mono e
  refine ⟨fun i hi => ⟨xs, xs[i]'(by rw [r.length]; exact hi), hp, List.getElem?_eq_getElem _⟩, fun i hi => ⟨xs, hp, by rw [r.length]; exact hi⟩, fun i x H'' hi y => ?_⟩
  obtain ⟨rfl, y⟩ := y
  obtain ⟨d, hd, rp⟩ := r'.getV (y xs hp)
  exact ⟨Hf', d, hd, Gr.refl s, rp⟩
theorem rangeD_get (a b : Int) (i : Nat) (h : i < (b - a).toNat) : (rangeD a b)[i]? = some (.int (a + i)) := by
  unfold rangeD
  rw [List.getElem?_map, List.getElem?_range h]; rfl
theorem rangeD_length (a b : Int) : (rangeD a b).length = (b - a).toNat := by unfold rangeD; rw [List.length_map, List.length_range]
theorem wk_rng {Hf H : Hp} (a b : Int) : Wk G (Itr a (b - a).toNat) false Hf H (rangeD a b) := by
  refine ⟨[], fun _ => rfl, fun a ha => absurd ha (by simp), fun Hf' H' e s l k => ?_⟩
  rw [rangeD_length]
  refine ⟨fun i hi => hi, fun i hi => hi, fun i x H'' hi y => ?_⟩
  obtain ⟨rfl, rfl⟩ := y
  exact ⟨Hf', _, rangeD_get a b i hi, Gr.refl s, rp_int⟩
theorem enumD_get : ∀ (ds : List PyData) (n i : Nat) (d : PyData), ds[i]? = some d → (enumD n ds)[i]? = some (.tuple [.int (n + i : Nat), d])
  | [], n, i, d, e => by simp at e
  | a :: r, n, 0, d, e => by simp at e; subst e; rfl
  | a :: r, n, i + 1, d, e => by
    have := enumD_get r (n + 1) i d (by simpa using e)
    rw [show n + 1 + i = n + (i + 1) by omega] at this
    simpa [enumD] using this
theorem enumD_length : ∀ (ds : List PyData) (n : Nat), (enumD n ds).length = ds.length
  | [], _ => rfl
  | a :: r, n => by simp [enumD, enumD_length r (n + 1)]
theorem wk_enum {fl : Bool} {Hf H : Hp} {p : Addr} {xs : List V} {ds : List PyData} (pin : Pin fl Hf H p (.lst xs)) (r : RpL G Hf ds xs) : Wk G (Ite G.K p) fl Hf H (enumD 0 ds) := by
  refine ⟨pinAs fl p, pin.as.1, pin.as.2, fun Hf' H' e s l k => ?_⟩
  have hp := pin.stays (fun z => z) e s k
  have r' := r.mono e
  rw [enumD_length]
  refine ⟨fun i hi => ⟨xs, xs[i]'(by rw [r.length]; exact hi), sqL_of hp, List.getElem?_eq_getElem _⟩, fun i hi => ⟨xs, sqL_of hp, by rw [r.length]; exact hi⟩, fun i x H'' hi y => ?_⟩
  obtain ⟨T, w, rfl, hT, rfl, y⟩ := y
  obtain ⟨d, hd, rp⟩ := r'.getV (y xs (sqL_of hp))
  have hf := s.no hT
  refine ⟨upd Hf' T (.tup [.int i, w]), _, enumD_get ds 0 i d hd, Gr.newF s hT, ?_⟩
  rw [Nat.zero_add]
  exact rp_tup upd_same (RpL.cons rp_int (RpL.cons (rp.mono (Ex.new hf)) RpL.nil))
theorem zipD_get : ∀ (ds es : List PyData) (i : Nat) (d e : PyData), ds[i]? = some d → es[i]? = some e → (zipD ds es)[i]? = some (.tuple [d, e])
  | [], _, i, d, e, h, _ => by simp at h
  | _ :: _, [], i, d, e, _, h => by simp at h
  | a :: r, b :: s, 0, d, e, h1, h2 => by simp at h1 h2; subst h1; subst h2; rfl
  | a :: r, b :: s, i + 1, d, e, h1, h2 => by simpa [zipD] using zipD_get r s i d e (by simpa using h1) (by simpa using h2)
theorem zipD_length : ∀ (ds es : List PyData), (zipD ds es).length = min ds.length es.length
  | [], _ => by simp [zipD]
  | _ :: _, [] => by simp [zipD]
  | a :: r, b :: s => by
    have := zipD_length r s
    simp only [zipD, List.length_cons, this]
    omega
theorem wk_zipL {f1 f2 : Bool} {Hf H : Hp} {p q : Addr} {xs ys : List V} {ds es : List PyData} (pin : Pin f1 Hf H p (.lst xs)) (r : RpL G Hf ds xs) (pin2 : Pin f2 Hf H q (.lst ys)) (r2 : RpL G Hf es ys) : Wk G (Itz G.K p q) (f1 || f2) Hf H (zipD ds es) := by
  refine ⟨pinAs f1 p ++ pinAs f2 q, fun z => ?_, fun a ha => ?_, fun Hf' H' e s l k => ?_⟩
  · rw [Bool.or_eq_false_iff] at z
    rw [pin.as.1 z.1, pin2.as.1 z.2]; rfl
  · rcases List.mem_append.mp ha with ha | ha
    · exact pin.as.2 a ha
    · exact pin2.as.2 a ha
  have hp := pin.stays (fun z => z) e s fun a ha => k a (List.mem_append_left _ ha)
  have hq := pin2.stays (fun z => z) e s fun a ha => k a (List.mem_append_right _ ha)
  have r' := r.mono e
  have r2' := r2.mono e
  have l1 := r.length
  have l2 := r2.length
  rw [zipD_length]
  refine ⟨fun i hi => ⟨xs, ys, xs[i]'(by omega), ys[i]'(by omega), sqL_of hp, sqL_of hq, List.getElem?_eq_getElem _, List.getElem?_eq_getElem _⟩, fun i hi => ⟨xs, ys, sqL_of hp, sqL_of hq, by omega⟩, fun i x H'' hi y => ?_⟩
  obtain ⟨T, w, w2, rfl, hT, rfl, y, y2⟩ := y
  obtain ⟨d, hd, rp⟩ := r'.getV (y xs (sqL_of hp))
  obtain ⟨d2, hd2, rp2⟩ := r2'.getV (y2 ys (sqL_of hq))
  have hf := s.no hT
  exact ⟨upd Hf' T (.tup [w, w2]), _, zipD_get ds es i d d2 hd hd2, Gr.newF s hT, rp_tup upd_same (RpL.cons (rp.mono (Ex.new hf)) (RpL.cons (rp2.mono (Ex.new hf)) RpL.nil))⟩
theorem wk_zipT {Hf H : Hp} {p q : Addr} {xs ys : List V} {ds es : List PyData} (t : SqT G.K Hf p xs) (r : RpL G Hf ds xs) (t2 : SqT G.K Hf q ys) (r2 : RpL G Hf es ys) : Wk G (RZ.ItzT G.K p q) false Hf H (zipD ds es) := by
  refine ⟨[], fun _ => rfl, fun a ha => absurd ha (by simp), fun Hf' H' e s l k => ?_⟩
  have hp := s.t (e.t t)
  have hq := s.t (e.t t2)
  have r' := r.mono e
  have r2' := r2.mono e
  have l1 := r.length
  have l2 := r2.length
  rw [zipD_length]
  refine ⟨fun i hi => ⟨xs, ys, xs[i]'(by omega), ys[i]'(by omega), hp, hq, List.getElem?_eq_getElem _, List.getElem?_eq_getElem _⟩, fun i hi => ⟨xs, ys, hp, hq, by omega⟩, fun i x H'' hi y => ?_⟩
  obtain ⟨T, w, w2, rfl, hT, rfl, y, y2⟩ := y
  obtain ⟨d, hd, rp⟩ := r'.getV (y xs hp)
  obtain ⟨d2, hd2, rp2⟩ := r2'.getV (y2 ys hq)
  have hf := s.no hT
  exact ⟨upd Hf' T (.tup [w, w2]), _, zipD_get ds es i d d2 hd hd2, Gr.newF s hT, rp_tup upd_same (RpL.cons (rp.mono (Ex.new hf)) (RpL.cons (rp2.mono (Ex.new hf)) RpL.nil))⟩
theorem wk_keys {Hf H : Hp} {p : Addr} {ob : Obj} {ks : List (Key × V)} {kvs : List (PyData × PyData)} (h : H p = some (.frz ob (.dK ks))) (r : RpD G Hf kvs ks) : Wk G (Itk p ob ks) false Hf H (kvs.map (·.1)) := by
  refine ⟨[], fun _ => rfl, fun a ha => absurd ha (by simp), fun Hf' H' e s l k => ?_⟩
  have hp := l p ob _ h
  have l1 := rpD_length r
  rw [List.length_map]
  refine ⟨fun i hi => ⟨hp, by omega⟩, (fun i hi => ⟨hp, by omega⟩), fun i x H'' hi y => ?_⟩
  obtain ⟨rfl, kk, w, hk, rfl⟩ := y
  refine ⟨Hf', kd kk, rpD_keys r i kk w hk, Gr.refl s, ?_⟩
  rcases kk with j | j
  · exact rp_int
  · exact rp_str
end
/-! the walks, by the text -/
theorem PI.or {X : Cx} {a b : Expr} {t u : TI} (h : PI X a b t) (k : PI X a b u) : PI X a b fun σ H R => t σ H R ∨ u σ H R := ⟨fun pins s σ H R I q => q.elim (h.run pins s σ H R I) (k.run pins s σ H R I)⟩
/-- the keys of a dict: it is locked from here on -/
def iKeysA (td : TE) : TI := fun σ H R => td σ H fun x H1 => ∃ d kvs, x = .ref d ∧ ((H1 d = some (.dK kvs) ∧ ∀ od, R (Itk d od kvs) (upd H1 d (.frz od (.dK kvs)))) ∨ ∃ o, H1 d = some (.frz o (.dK kvs)) ∧ R (Itk d o kvs) H1)
theorem pi_keysA {X : Cx} {tg e : Expr} {td : TE} (he : PE X e td) : PI X tg e (iKeysA td) := by
  refine ⟨fun pins s σ H R I h => ?_⟩
  refine thn (he.run pins s σ H _ I h) fun u s1 ⟨x, H1, I1, rx, d, kvs, ex, q⟩ => ?_
  subst ex
  obtain rfl : u = Value.ref d := rx
  have go : ∀ (o : Obj) (H2 : Hp), Inv X pins σ H2 s1 → H2 d = some (.frz o (.dK kvs)) → R (Itk d o kvs) H2 → wpAny (model X.prog X.w) X.A (pyIter (.ref d)) (PIE X pins σ tg R) X.xe s1 := fun o H2 I2 hd q => by
    obtain ⟨hs, hgd, hx, es, ep, vs, hdt, hsz, kv, hm⟩ := I2.frzK hd
    refine iter_keys hs hgd hx hdt (pi_one (tk := s1.toks) I2 _ (turn_keys _ hdt) ⟨_, Heap.get?_push_size _ rfl, rfl, ?_⟩ q)
    rw [hsz] <;> rfl
  rcases q with ⟨hd, q⟩ | ⟨o, hd, q⟩
  · obtain ⟨od, I2⟩ := I1.lock hd trivial
    exact go od _ I2 upd_same (q od)
  · exact go o H1 I1 hd q
section
variable {X : Cx} {G : Gm} {σ : L2.St} {H : Hp} {R : L2.It → Hp → Prop}
theorem i_over (hK : G.K = X.K) {f : Fx} (h : tI G (fun ρ => (f ρ).bind fun x => match x.2 with
    | .list ds => some (x.1 == .bw, ds)
    | .tuple ds => some (false, ds)
    | .dict kvs => if realD kvs = true ∧ x.1 ≠ .bw then some (false, kvs.map (·.1)) else none
    | _ => none) σ H R) : iList X.K (tX G f) σ H R ∨ iTup X.K (tX G f) σ H R ∨ iKeysA (tX G f) σ H R := by
  obtain ⟨Hf, ρ, fl, ds, S, e, q⟩ := h
  obtain ⟨x, e1, e⟩ := Option.bind_eq_some_iff.mp e
  obtain ⟨k, d⟩ := x
  dsimp only at e
  split at e
  · cases e
    refine .inl (x_view S e1 fun v Hf1 H1 g1 r1 => ?_)
    obtain ⟨Hf2, p, xs, rfl, g2, _, r2, pin⟩ := avail_list g1 r1
    rw [← hK]
    exact ⟨p, rfl, ⟨xs, sqL_of pin.1⟩, q _ Hf2 H1 g2 (wk_list pin r2)⟩
  · cases e
    refine .inr (.inl (x_view S e1 fun v Hf1 H1 g1 r1 => ?_))
    obtain ⟨p, xs, rfl, t, r2⟩ := rp_tuple (rpk_tuple r1)
    rw [← hK]
    exact ⟨p, rfl, ⟨xs, g1.sub.t t⟩, q _ Hf1 H1 g1 (wk_tup t r2)⟩
  · rename_i kvs
    split at e
    · rename_i c
      cases e
      refine .inr (.inr (x_view S e1 fun v Hf1 H1 g1 r1 => ?_))
      obtain ⟨Hf2, g2, ex, r2⟩ := r1.keep g1 c.2
      simp only [Rp] at r2
      rcases r2 with ⟨p, ks, rfl, h1, h2⟩ | ⟨y, a, z, _⟩ | ⟨ns, a, z, _⟩
      · refine ⟨p, ks, rfl, ?_⟩
        rcases g2.sub p _ h1 with z | ⟨_, ob, z⟩
        · refine .inl ⟨z, fun od => q _ Hf2 _ (g2.trans (Gr.lock g2.sub h1 z)) (wk_keys upd_same h2)⟩
        · exact .inr ⟨ob, z, q _ Hf2 H1 g2 (wk_keys z h2)⟩
      · subst z; have := c.1; cases this
      · subst z; have := c.1; cases this
    · cases e
  · cases e
theorem pi_over (hK : G.K = X.K) {tg e : Expr} {f : Fx} (he : PE X e (tX G f)) : PI X tg e (tI G (fun ρ => (f ρ).bind fun x => match x.2 with
    | .list ds => some (x.1 == .bw, ds)
    | .tuple ds => some (false, ds)
    | .dict kvs => if realD kvs = true ∧ x.1 ≠ .bw then some (false, kvs.map (·.1)) else none
    | _ => none)) := PI.weak (PI.or (pi_list he) (PI.or (pi_tup he) (pi_keysA he))) fun σ H R h => i_over hK h
theorem i_range1 {f : Fx} (h : tI G (fun ρ => (oneI (f ρ)).bind fun h => if -100000000 ≤ h ∧ h ≤ 100000000 then some (false, rangeD 0 h) else none) σ H R) : iRng1 (tCons (tX G f) tNil) σ H R := by
  obtain ⟨Hf, ρ, fl, ds, S, e, q⟩ := h
  obtain ⟨i, e1, e⟩ := Option.bind_eq_some_iff.mp e
  split at e
  · rename_i c
    cases e
    refine x_int S e1 fun Hf1 H1 g1 => ⟨i, rfl, by omega, by omega, ?_⟩
    have := q _ Hf1 H1 g1 (wk_rng 0 i)
    rwa [Int.sub_zero] at this
  · cases e
theorem i_range2 {f g : Fx} (h : tI G (fun ρ => (oneI (f ρ)).bind fun l => (oneI (g ρ)).bind fun h => if -100000000 ≤ l ∧ l ≤ 100000000 ∧ -100000000 ≤ h ∧ h ≤ 100000000 then some (false, rangeD l h) else none) σ H R) :
    iRng2 (tCons (tX G f) (tCons (tX G g) tNil)) σ H R := by
  obtain ⟨Hf, ρ, fl, ds, S, e, q⟩ := h
  obtain ⟨i, e1, e⟩ := Option.bind_eq_some_iff.mp e
  obtain ⟨j, e2, e⟩ := Option.bind_eq_some_iff.mp e
  split at e
  · rename_i c
    cases e
    refine x_int S e1 fun Hf1 H1 g1 => x_int (S.mono g1) e2 fun Hf2 H2 g2 => ⟨i, j, rfl, ⟨by omega, by omega, by omega, by omega⟩, q _ Hf2 H2 (g1.trans g2) (wk_rng i j)⟩
  · cases e
theorem i_enum (hK : G.K = X.K) {f : Fx} (h : tI G (fun ρ => (f ρ).bind fun x => match x.2 with
    | .list ds => some (x.1 == .bw, enumD 0 ds)
    | _ => none) σ H R) : iEnum X.K (tCons (tX G f) tNil) σ H R := by
  obtain ⟨Hf, ρ, fl, ds, S, e, q⟩ := h
  obtain ⟨x, e1, e⟩ := Option.bind_eq_some_iff.mp e
  obtain ⟨k, d⟩ := x
  dsimp only at e
  split at e
  · cases e
    refine x_view S e1 fun v Hf1 H1 g1 r1 => ?_
    obtain ⟨Hf2, p, xs, rfl, g2, _, r2, pin⟩ := avail_list g1 r1
    rw [← hK]
    exact ⟨p, xs, rfl, sqL_of pin.1, q _ Hf2 H1 g2 (wk_enum pin r2)⟩
  · cases e
theorem i_zip2 (hK : G.K = X.K) {f g : Fx} (h : tI G (fun ρ => (f ρ).bind fun x => (g ρ).bind fun y => match x.2, y.2 with
    | .list ds, .list es => some (x.1 == .bw || y.1 == .bw, zipD ds es)
    | .tuple ds, .tuple es => some (false, zipD ds es)
    | _, _ => none) σ H R) : RZ.iZipA X.K (tCons (tX G f) (tCons (tX G g) tNil)) σ H R := by
  obtain ⟨Hf, ρ, fl, ds, S, e, q⟩ := h
  obtain ⟨x, e1, e⟩ := Option.bind_eq_some_iff.mp e
  obtain ⟨y, e2, e⟩ := Option.bind_eq_some_iff.mp e
  obtain ⟨k, d⟩ := x
  obtain ⟨k2, d2⟩ := y
  dsimp only at e
  split at e
  · cases e
    refine x_view S e1 fun v Hf1 H1 g1 r1 => ?_
    obtain ⟨Hf2, p, xs, rfl, g2, _, r2, pin⟩ := avail_list g1 r1
    refine x_view (S.mono g2) e2 fun w Hf3 H3 g3 r3 => ?_
    obtain ⟨Hf4, p', xs', rfl, g4, ex, r4, pin'⟩ := avail_list g3 r3
    have pin2 := pin.mono g4 (fun z => z)
    rw [← hK]
    exact ⟨p, p', xs, xs', rfl, .inl ⟨sqL_of pin2.1, sqL_of pin'.1, q _ Hf4 H3 (g2.trans g4) (wk_zipL pin2 (r2.mono g4.fx) pin' r4)⟩⟩
  · cases e
    refine x_view S e1 fun v Hf1 H1 g1 r1 => ?_
    obtain ⟨p, xs, rfl, t, r2⟩ := rp_tuple (rpk_tuple r1)
    refine x_view (S.mono g1) e2 fun w Hf3 H3 g3 r3 => ?_
    obtain ⟨p', xs', rfl, t', r4⟩ := rp_tuple (rpk_tuple r3)
    rw [← hK]
    have t2 := g3.fx.t t
    exact ⟨p, p', xs, xs', rfl, .inr ⟨g3.sub.t t2, g3.sub.t t', q _ Hf3 H3 (g1.trans g3) (wk_zipT t2 (r2.mono g3.fx) t' r4)⟩⟩
  · cases e
end
end Bw

namespace Bw
open PySem PySem.Spec PyProof.Rows L2
/-! targets -/
mutual
def gT (K : PySem.W.Frag) : Tg → TG
  | .nm i => gName i
  | .tp n ts => gTup K n (gTs K ts)
  | _ => fun _ _ _ _ => False
def gTs (K : PySem.W.Frag) : Tg → TGs
  | .nil => gNil
  | .cons a b => gCons (gT K a) (gTs K b)
  | _ => fun _ _ _ _ => False
end
/-- the places of a target -/
def plT : Tg → List Nat
  | .nm i => [i]
  | .nil => []
  | .cons a b => plT a ++ plT b
  | .tp _ ts => plT ts
section
variable {G : Gm} {Hf H : Hp}
theorem Sl.fzSet {σ : L2.St} {ρ : Rho} {i : Nat} {d : PyData} {v : V} (S : Sl G Hf H σ ρ) (r : Rp G Hf d v) : Sl G Hf H (σ.set i (some v)) (ρ.set i (some (false, d))) where
  sub := S.sub
  len := by rw [List.length_set, List.length_set, S.len]
  fz := fun j e he => by
    by_cases h : i = j
    · subst h
      by_cases hi : i < ρ.length
      · rw [List.getElem?_set_self hi] at he
        cases he
        exact ⟨v, List.getElem?_set_self (by rw [S.len]; exact hi), r⟩
      · rw [List.getElem?_eq_none (by rw [List.length_set]; omega)] at he; cases he
    · rw [List.getElem?_set_ne h] at he
      rw [List.getElem?_set_ne h]
      exact S.fz j e he
  ow := fun j e he => by
    by_cases h : i = j
    · subst h
      by_cases hi : i < ρ.length
      · rw [List.getElem?_set_self hi] at he; cases he
      · rw [List.getElem?_eq_none (by rw [List.length_set]; omega)] at he; cases he
    · rw [List.getElem?_set_ne h] at he
      rw [List.getElem?_set_ne h]
      exact S.ow j e he
  inj := fun j k d e p h1 h2 h3 h4 => by
    have hj : i ≠ j := fun z => by
      subst z
      by_cases hi : i < ρ.length
      · rw [List.getElem?_set_self hi] at h1; cases h1
      · rw [List.getElem?_eq_none (by rw [List.length_set]; omega)] at h1; cases h1
    have hk : i ≠ k := fun z => by
      subst z
      by_cases hi : i < ρ.length
      · rw [List.getElem?_set_self hi] at h2; cases h2
      · rw [List.getElem?_eq_none (by rw [List.length_set]; omega)] at h2; cases h2
    rw [List.getElem?_set_ne hj] at h1 h3
    rw [List.getElem?_set_ne hk] at h2 h4
    exact S.inj j k d e p h1 h2 h3 h4
/-- a slot that is not read any more -/
theorem Sl.anySet {σ : L2.St} {ρ : Rho} {i : Nat} {v : Option V} (S : Sl G Hf H σ ρ) : Sl G Hf H (σ.set i v) (ρ.set i none) where
  sub := S.sub
  len := by rw [List.length_set, List.length_set, S.len]
  fz := fun j e he => by
    by_cases h : i = j
    · subst h
      by_cases hi : i < ρ.length
      · rw [List.getElem?_set_self hi] at he; cases he
      · rw [List.getElem?_eq_none (by rw [List.length_set]; omega)] at he; cases he
    · rw [List.getElem?_set_ne h] at he
      rw [List.getElem?_set_ne h]
      exact S.fz j e he
  ow := fun j e he => by
    by_cases h : i = j
    · subst h
      by_cases hi : i < ρ.length
      · rw [List.getElem?_set_self hi] at he; cases he
      · rw [List.getElem?_eq_none (by rw [List.length_set]; omega)] at he; cases he
    · rw [List.getElem?_set_ne h] at he
      rw [List.getElem?_set_ne h]
      exact S.ow j e he
  inj := fun j k d e p h1 h2 h3 h4 => by
    have hj : i ≠ j := fun z => by
      subst z
      by_cases hi : i < ρ.length
      · rw [List.getElem?_set_self hi] at h1; cases h1
      · rw [List.getElem?_eq_none (by rw [List.length_set]; omega)] at h1; cases h1
    have hk : i ≠ k := fun z => by
      subst z
      by_cases hi : i < ρ.length
      · rw [List.getElem?_set_self hi] at h2; cases h2
      · rw [List.getElem?_eq_none (by rw [List.length_set]; omega)] at h2; cases h2
    rw [List.getElem?_set_ne hj] at h1 h3
    rw [List.getElem?_set_ne hk] at h2 h4
    exact S.inj j k d e p h1 h2 h3 h4
theorem Sl.wipe {σ : L2.St} {ρ : Rho} (S : Sl G Hf H σ ρ) : ∀ vs : List Nat, Sl G Hf H (L2.wipe σ vs) (wipeR ρ vs)
  | [] => S
  | v :: vs => by unfold L2.wipe wipeR; exact (S.wipe vs).anySet
theorem wipe_set {i : Nat} {x : Option V} {σ : L2.St} : ∀ {vs : List Nat}, i ∈ vs → L2.wipe (σ.set i x) vs = L2.wipe σ vs
  | [], h => absurd h (by simp)
  | v :: vs, h => by
    unfold L2.wipe
    by_cases e : i ∈ vs
    · rw [wipe_set e]
    · have e' : i = v := by
        rcases List.mem_cons.mp h with z | z
        · exact z
        · exact absurd z e
      subst e'
      have : ∀ {ws : List Nat} {τ : L2.St}, i ∉ ws → L2.wipe (τ.set i x) ws = (L2.wipe τ ws).set i x := by
        intro ws
        induction ws with
        | nil => intro τ _; rfl
        | cons w ws ih =>
          intro τ hw
          simp only [List.mem_cons, not_or] at hw
          unfold L2.wipe
          rw [ih hw.2, List.set_comm _ _ hw.1]
      rw [this e, List.set_set]
theorem wipe_wipe {σ : L2.St} : ∀ {vs ws : List Nat}, (∀ i ∈ ws, i ∈ vs) → L2.wipe (L2.wipe σ ws) vs = L2.wipe σ vs
  | vs, [], _ => rfl
  | vs, w :: ws, h => by
    show L2.wipe ((L2.wipe σ ws).set w none) vs = _
    rw [wipe_set (h w (List.mem_cons_self ..)), wipe_wipe fun i hi => h i (List.mem_cons_of_mem _ hi)]
/-- σ' is σ but for these places -/
inductive Chg (vs : List Nat) : L2.St → L2.St → Prop
  | refl (σ : L2.St) : Chg vs σ σ
  | step {σ σ' : L2.St} {i : Nat} {x : Option V} : Chg vs σ σ' → i ∈ vs → Chg vs σ (σ'.set i x)
theorem Chg.wipe {vs : List Nat} {σ σ' : L2.St} (c : Chg vs σ σ') : L2.wipe σ' vs = L2.wipe σ vs := by
  induction c with
  | refl => rfl
  | step c hi ih => rw [wipe_set hi, ih]
theorem Chg.mono {vs ws : List Nat} {σ σ' : L2.St} (c : Chg vs σ σ') (h : ∀ i ∈ vs, i ∈ ws) : Chg ws σ σ' := by
  induction c with
  | refl => exact .refl _
  | step c hi ih => exact .step ih (h _ hi)
theorem Chg.trans {vs : List Nat} {σ σ' σ'' : L2.St} (c : Chg vs σ σ') (c' : Chg vs σ' σ'') : Chg vs σ σ'' := by
  induction c' with
  | refl => exact c
  | step c hi ih => exact .step ih hi
/-- what an assignment leaves of ownership -/
def Less (ρ ρ' : Rho) (σ σ' : L2.St) : Prop := ∀ (i : Nat) (d : PyData), ρ'[i]? = some (some (true, d)) → ρ[i]? = some (some (true, d)) ∧ σ'[i]? = σ[i]?
theorem Less.refl (ρ : Rho) (σ : L2.St) : Less ρ ρ σ σ := fun _ _ h => ⟨h, rfl⟩
theorem Less.trans {ρ ρ1 ρ2 : Rho} {σ σ1 σ2 : L2.St} (a : Less ρ ρ1 σ σ1) (b : Less ρ1 ρ2 σ1 σ2) : Less ρ ρ2 σ σ2 := fun i d h =>
  let ⟨h1, e1⟩ := b i d h
  let ⟨h2, e2⟩ := a i d h1
  ⟨h2, e1.trans e2⟩
theorem Less.fzSet (ρ : Rho) (σ : L2.St) (i : Nat) (d : PyData) (v : Option V) : Less ρ (ρ.set i (some (false, d))) σ (σ.set i v) := fun j e h => by
  by_cases hj : i = j
  · subst hj
    by_cases hi : i < ρ.length
    · rw [List.getElem?_set_self hi] at h; cases h
    · rw [List.getElem?_eq_none (by rw [List.length_set]; omega)] at h; cases h
  · rw [List.getElem?_set_ne hj] at h
    rw [List.getElem?_set_ne hj]
    exact ⟨h, rfl⟩
mutual
theorem bindT_ok (hs : Sub Hf H) : ∀ (tg : Tg) {d : PyData} {v : V} {σ : L2.St} {ρ ρ' : Rho} {Q : L2.St → Hp → Prop}, Sl G Hf H σ ρ → bindT tg d ρ = some ρ' → Rp G Hf d v →
    (∀ σ', Sl G Hf H σ' ρ' → Chg (plT tg) σ σ' → Less ρ ρ' σ σ' → Q σ' H) → gT G.K tg v σ H Q
  | .nm i, d, v, σ, ρ, ρ', Q, S, e, r, q => by
    rw [bindT] at e
    split at e
    · cases e
      rw [gT]
      exact q _ (S.fzSet r) (.step (.refl _) (by simp [plT])) (Less.fzSet _ _ _ _ _)
    · cases e
  | .tp n ts, d, v, σ, ρ, ρ', Q, S, e, r, q => by
    cases d with
    | tuple ds =>
      simp only [bindT] at e
      split at e
      · rename_i c
        simp only [Rp] at r
        obtain ⟨a, xs, rfl, h1, h2⟩ := r
        rw [gT]
        refine ⟨a, xs, rfl, hs.t h1, by rw [h2.length, c], ?_⟩
        exact bindL_ok hs ts S e h2 q
      · cases e
    | _ => simp only [bindT] at e; cases e
  | .nil, d, v, σ, ρ, ρ', Q, S, e, r, q => by simp only [bindT] at e; cases e
  | .cons a b, d, v, σ, ρ, ρ', Q, S, e, r, q => by simp only [bindT] at e; cases e
theorem bindL_ok (hs : Sub Hf H) : ∀ (tg : Tg) {ds : List PyData} {vs : List V} {σ : L2.St} {ρ ρ' : Rho} {Q : L2.St → Hp → Prop}, Sl G Hf H σ ρ → bindL tg ds ρ = some ρ' → RpL G Hf ds vs →
    (∀ σ', Sl G Hf H σ' ρ' → Chg (plT tg) σ σ' → Less ρ ρ' σ σ' → Q σ' H) → gTs G.K tg vs σ H Q
  | .nil, ds, vs, σ, ρ, ρ', Q, S, e, r, q => by
    cases ds with
    | nil =>
      simp only [bindL] at e
      cases e
      simp only [RpL] at r
      subst r
      rw [gTs]
      exact ⟨rfl, q σ S (.refl _) (Less.refl _ _)⟩
    | cons _ _ => simp only [bindL] at e; cases e
  | .cons a b, ds, vs, σ, ρ, ρ', Q, S, e, r, q => by
    cases ds with
    | cons d r' =>
      simp only [bindL] at e
      obtain ⟨ρ1, e1, e2⟩ := Option.bind_eq_some_iff.mp e
      simp only [RpL] at r
      obtain ⟨v, w, rfl, h1, h2⟩ := r
      rw [gTs]
      refine ⟨v, w, rfl, bindT_ok hs a S e1 h1 fun σ1 S1 c1 l1 => bindL_ok hs b S1 e2 h2 fun σ2 S2 c2 l2 => q σ2 S2 ?_ (l1.trans l2)⟩
      rw [plT]
      exact (c1.mono fun i hi => List.mem_append_left _ hi).trans (c2.mono fun i hi => List.mem_append_right _ hi)
    | nil => simp only [bindL] at e; cases e
  | .nm i, d, v, σ, ρ, ρ', Q, S, e, r, q => by simp only [bindL] at e; cases e
  | .tp n ts, d, v, σ, ρ, ρ', Q, S, e, r, q => by simp only [bindL] at e; cases e
end
end
/-- one's own object written, seen from where it was not yet -/
theorem Gr.mut {Hf0 H0 Hf H : Hp} {p : Addr} {o : HO} (g : Gr Hf0 H0 Hf H) (h0 : H0 p = none) (hf : Hf p = none) : Gr Hf0 H0 Hf (upd H p o) where
  fx := g.fx
  un := fun q u hq hn => by rw [upd_ne (ne_of_none hq h0)]; exact g.un q u hq hn
  sub := fun b u e => by rw [upd_ne (fun z => by subst z; rw [hf] at e; cases e)]; exact g.sub b u e
  lk := fun q ob u hq => by rw [upd_ne (ne_of_none hq h0)]; exact g.lk q ob u hq
theorem PTs.weak {X : Cx} {e : List Expr} {t t' : TT} (h : PTs X e t) (w : ∀ σ H Q, t' σ H Q → t σ H Q) : PTs X e t' := ⟨fun pins s σ H Q I q => h.run pins s σ H Q I (w σ H Q q)⟩
theorem PG.weak {X : Cx} {e : Expr} {t t' : TG} (h : PG X e t) (w : ∀ v σ H Q, t' v σ H Q → t v σ H Q) : PG X e t' := ⟨fun pins s σ H v u Q I r q => h.run pins s σ H v u Q I r (w v σ H Q q)⟩
theorem compL_len {f : PyData → Option (Option PyData)} : ∀ {ds l : List PyData}, compL f ds = some l → l.length ≤ ds.length
  | [], l, h => by simp [compL] at h; subst h; simp
  | x :: r, l, h => by
    rw [compL] at h
    obtain ⟨o, e1, h⟩ := Option.bind_eq_some_iff.mp h
    obtain ⟨l', e2, h⟩ := Option.bind_eq_some_iff.mp h
    have := compL_len e2
    split at h
    · cases h; simp; omega
    · cases h; simp; omega
section
variable {G : Gm} {σ : L2.St} {H : Hp} {Q : VK}
/-- a list comprehension -/
theorem x_comp {fi : Rho → Option (Bool × List PyData)} {tg : Tg} {cd : Rho → Option Bool} {fe : Fx} {vs : List Nat} (hv : ∀ i ∈ plT tg, i ∈ vs)
    (h : tX G (fun ρ => (fi ρ).bind fun r => (fewD r.2).bind fun ds =>
      (compL (fun x => (bindT tg x (wipeR ρ vs)).bind fun ρ' => (cd ρ').bind fun t => if t = true then (kz (fe ρ')).map some else some none) ds).map fun l => (.nw, .list l)) σ H Q) :
    tLc (tI G fi) (gT G.K tg) (tT G cd) (tX G fe) vs σ H Q := by
  obtain ⟨Hf, ρ, k, d, S, e, q⟩ := h
  obtain ⟨r, e1, e⟩ := Option.bind_eq_some_iff.mp e
  obtain ⟨ds, e2, e⟩ := Option.bind_eq_some_iff.mp e
  obtain ⟨out, e3, e4⟩ := Option.map_eq_some_iff.mp e
  cases e4
  have e5 : r.2 = ds ∧ ds.length ≤ 100000 := by
    unfold fewD at e2
    split at e2
    · rename_i c; cases e2; exact ⟨rfl, c⟩
    · cases e2
  obtain ⟨e5, few⟩ := e5
  subst e5
  obtain ⟨fl, ds⟩ := r
  dsimp only at e1 e2 e3 few
  generalize hF : (fun x => (bindT tg x (wipeR ρ vs)).bind fun ρ' => (cd ρ').bind fun t => if t = true then (kz (fe ρ')).map some else some none) = F at e3
  refine ⟨Hf, ρ, fl, ds, S, e1, fun J Hf1 H1 g1 wk D hD => ?_⟩
  obtain ⟨as, _, has, wk⟩ := wk
  have hDf := g1.sub.no hD
  have pinned : ∀ {Hf' H' : Hp}, Gr Hf1 H1 Hf' H' → ∀ a ∈ as, H' a = H1 a := fun {Hf' H'} g a ha => by
    obtain ⟨n, o, ho⟩ := has a ha
    rw [(g.un a o ho n).2, ho]
  refine ⟨fun i m H' => ∃ Hf' acc l rest, m = ds.length - i ∧ i ≤ ds.length ∧ Gr Hf1 H1 Hf' H' ∧ Hf' D = none ∧ H' D = some (.lst acc) ∧ RpL G Hf' l acc ∧ l.length ≤ i ∧ compL F (ds.drop i) = some rest ∧ l ++ rest = out,
    ⟨ds.length, Hf1, [], [], out, by simp, Nat.zero_le _, Gr.newO g1.sub hD, hDf, upd_same, RpL.nil, Nat.le_refl _, by simpa using e3, rfl⟩, ?_⟩
  rintro i m H' ⟨Hf', acc, l, rest, rfl, hi, g2, nD, aD, ra, hl, hc, ho⟩
  obtain ⟨w1, w2, w3⟩ := wk Hf' H' g2.fx g2.sub g2.lk (pinned g2)
  by_cases hz : i = ds.length
  · refine .inl ⟨w2 i (by omega), ?_⟩
    subst hz
    rw [List.drop_length, compL] at hc
    cases hc
    rw [List.append_nil] at ho
    subst ho
    exact q _ Hf' H' (g1.trans g2) ⟨D, rfl, g1.back S.sub hD, nD, acc, aD, ra⟩
  · have hi' : i < ds.length := by omega
    refine .inr ⟨w1 i hi', fun H'' => ∃ Hf' acc l rest, i + 1 ≤ ds.length ∧ Gr Hf1 H1 Hf' H'' ∧ Hf' D = none ∧ H'' D = some (.lst acc) ∧ RpL G Hf' l acc ∧ l.length ≤ i + 1 ∧ compL F (ds.drop (i + 1)) = some rest ∧ l ++ rest = out,
      fun H'' ⟨Hf', acc, l, rest, h1, h2, h3, h4, h5, h6, h7, h8⟩ => ⟨ds.length - (i + 1), by omega, Hf', acc, l, rest, rfl, h1, h2, h3, h4, h5, h6, h7, h8⟩, fun x H'' y => ?_⟩
    obtain ⟨Hf3, d, hd, g3, rx⟩ := w3 i x H'' hi' y
    have hdrop : ds.drop i = d :: ds.drop (i + 1) := by
      rw [List.drop_eq_getElem_cons hi']
      rw [List.getElem?_eq_getElem hi'] at hd
      cases hd; rfl
    rw [hdrop, compL] at hc
    obtain ⟨o, c1, hc⟩ := Option.bind_eq_some_iff.mp hc
    obtain ⟨l', c2, hc⟩ := Option.bind_eq_some_iff.mp hc
    rw [← hF] at c1
    dsimp only at c1
    obtain ⟨ρ', c3, c1⟩ := Option.bind_eq_some_iff.mp c1
    obtain ⟨t, c4, c1⟩ := Option.bind_eq_some_iff.mp c1
    have S3 := (((S.mono g1).mono g2).mono g3).wipe vs
    refine bindT_ok g3.sub tg S3 c3 rx fun σ2 S4 ch _ => ⟨?_, Hf3, ρ', t, S4, c4, fun Hf5 H5 g5 => ?_⟩
    · rw [(ch.mono hv).wipe, wipe_wipe fun i hi => hi]
    have g25 := (g2.trans g3).trans g5
    obtain ⟨nD5, aD5⟩ : Hf5 D = none ∧ H5 D = some (.lst acc) := by
      obtain ⟨p1, p2⟩ := g3.un D _ aD nD
      obtain ⟨p3, p4⟩ := g5.un D _ p2 p1
      exact ⟨p3, p4⟩
    have ra5 := ra.mono (g3.fx.trans g5.fx)
    cases t with
    | true =>
      rw [if_pos rfl] at c1
      dsimp only
      rw [if_pos rfl]
      obtain ⟨z, c5, c6⟩ := Option.map_eq_some_iff.mp c1
      subst c6
      cases hc
      refine x_kz (S4.mono g5) c5 fun v Hf6 H6 g6 r6 => ?_
      obtain ⟨nD6, aD6⟩ := g6.un D _ aD5 nD5
      refine ⟨acc, aD6, ?_, Hf6, acc ++ [v], l ++ [z], l', hi', (g25.trans g6).mut hD nD6, nD6, upd_same, RpL.append (ra5.mono g6.fx) (RpL.cons r6 RpL.nil), by simp; omega, c2, by rw [← ho, List.append_assoc]; rfl⟩
      rw [ra.length]
      exact Nat.lt_of_lt_of_le (show l.length < 100000 by omega) (by decide)
    | false =>
      rw [if_neg Bool.false_ne_true] at c1
      dsimp only
      rw [if_neg Bool.false_ne_true]
      cases c1
      cases hc
      exact ⟨Hf5, acc, l, _, hi', g25, nD5, aD5, ra5, by omega, c2, ho⟩
end
end Bw

namespace Bw
open PySem PySem.Spec PyProof.Rows L2
/-! set(x): first what any argument asks, then a list of ints -/
abbrev eset (w : World) : Obj := { cls := .type "set", dict := none, data := .set #[] 0 (.fresh 0 0 (!w.params.followText "set-order")) }
section
variable {P : Program} {w : World} {A : Around} {E : Value → Shared → Prop} {s : Shared}
theorem set_shell (x : Value) {Q : Value → Shared → Prop}
    (init : codeAny (model P w) A.in1 (.call (.builtin "set.__init__") ⟨[.ref s.heap.objs.size, x], []⟩) (wants (fun r s2 => r = .none ∧ Q (.ref s.heap.objs.size) s2) E) { s with heap := s.heap.push (eset w) }) :
    wpAny (model P w) A (call (.type "set") [x]) Q E s := by
  have made := F.called_set.made
  have under := F.called_set.sub
  have notType := F.called_set.notType
  have able := F.called_set.canCreate
  have shape := F.typeCall_set_1 x
  obtain ⟨c, tl, line⟩ := F.called_set.mro
  refine wpAny_call (codeAny_of_tree (wpAny_pure ⟨Code.quiet_builtin _ (by decide +kernel), codeAny_builtin F.entry_type_call ?_⟩))
  rw [Around.under_plain (weight_type_call_type "set" [x] []) rfl]
  repeat (any_goals (first | assumption | wp_step))
  have born : codeAny (model P w) A.in1 (.call (.builtin "set.__new__") ⟨[.type "set", x], []⟩) (wants (fun o s1 => o = .ref s.heap.objs.size ∧ s1 = { s with heap := s.heap.push (eset w) }) E) s := code_set_led1 x ⟨rfl, rfl⟩
  refine codeAny_mono born fun r s1 hr => ?_
  match r, hr with
  | .error e, hr => exact hr
  | .ok (.ret o), ⟨e1, e2⟩ =>
    subst e1
    subst e2
    have at_ : (s.heap.push (eset w)).get? s.heap.objs.size = some (eset w) := Heap.get?_push_size _ rfl
    have ty : Shared.TypeIs { s with heap := s.heap.push (eset w) } (.ref s.heap.objs.size) "set" := ⟨_, at_, rfl⟩
    have look := F.called_set.init.lookup
    have bind := F.called_set.init.bind (.ref s.heap.objs.size)
    repeat (any_goals (first | assumption | wp_step))
    refine codeAny_mono init fun r2 s2 hr2 => ?_
    match r2, hr2 with
    | .error e, hr2 => exact hr2
    | .ok (.ret v), ⟨e3, q⟩ =>
      subst e3
      repeat (any_goals (first | assumption | wp_step))
/-- a set that is empty yet takes in a list of ints -/
theorem set_fill {S l : Addr} {items : Array Value} {s1 : Shared} (ns : List Int) (hh : A.handled = none) (hS : s1.heap.get? S = some (eset w)) (hl : s1.heap.IsList l items) (ne : S ≠ l) (hit : IntsAre items.toList ns) (hb : ns.length + 1 < scanBound) :
    codeAny (model P w) A.in1 (.call (.builtin "set.__init__") ⟨[.ref S, .ref l], []⟩)
      (wants (fun r s2 => r = .none ∧ ∃ h' tk c, s2 = { s1 with heap := h', toks := tk } ∧ SetR w h' S (fun j => decide (j ∈ ns)) c ∧ c ≤ ns.length ∧ ∀ b o, b ≠ S → s1.heap.get? b = some o → h'.get? b = some o) E) s1 := by
  have count : items.size = ns.length := by simpa using IntsAre.length hit
  have val : ∀ (i : Nat) (v : Value), items[i]? = some v → ∃ k t, ns[i]? = some k ∧ v = .int k t := fun i v hv => by
    have hi : i < ns.length := count ▸ (Array.getElem?_eq_some_iff.mp hv).1
    obtain ⟨t, e⟩ := PyProof.Rows.IntsAre.int_at hit i v (by simpa using hv)
    exact ⟨ns[i], t, List.getElem?_eq_getElem hi, by simpa [List.getElem?_eq_getElem hi] using e⟩
  have ltS : S < s1.heap.objs.size := Heap.lt_size hS
  obtain ⟨ob, hob, hc, nl, hd⟩ := hl
  have ltl : l < s1.heap.objs.size := Heap.lt_size hob
  obtain ⟨cls, dd, data, slots⟩ := ob
  obtain rfl : cls = .type "list" := hc
  obtain rfl : data = .seq items nl := hd
  have again : s1.heap.IsList l items := ⟨_, hob, rfl, nl, rfl⟩
  have ty : Shared.TypeIs s1 (.ref S) "set" := ⟨_, hS, rfl⟩
  refine codeAny_call_builtin F.called_set.init.plain F.entry_set_init (check_set_init_1 ty ?_)
  have sub1 := F.sub_list_set
  have sub2 := F.sub_list_frozenset
  have kind : (Value.type "list" == Value.type "dict") = false := by decide
  unfold Builtin.«set.__init__» noKeywords Builtin.Frozenset.updateFrom
  generalize hit_ : pyIter = walkOf
  wp_walk
  subst hit_
  refine wpAny_pyIter_list again (wpAny_bind (wpAny_runValue ?_))
  have top : s1.heap.objs.size ≠ l := Nat.ne_of_gt ltl
  refine set_update_ints ((Walks.list (A := A.in1.in1.in1) (by simp [hh]) s1.heap.objs.size l (Ne.symm top) items).toS) S (by simp only [List.mem_cons, List.not_mem_nil, or_false, not_or]; exact ⟨Nat.ne_of_lt ltS, ne⟩) ns count hb val (items.size - 0) 0 _ (by omega) (Nat.zero_le _)
    ⟨⟨_, Heap.get?_push_size _ rfl, rfl, rfl⟩, again.push _⟩ ⟨0, Nat.le_refl 0, setR_new_at (Heap.get?_push_of_some _ hS)⟩ fun s2 c moved hc2 full => ?_
  obtain ⟨h2, g2, d2, k2, o2⟩ := s2
  have eg : g2 = s1.gens := moved.gens
  have ed : d2 = s1.drawn := moved.drawn
  have eo : o2 = s1.os := moved.os
  subst eg ed eo
  refine wpAny_pure (wpAny_pure ⟨rfl, h2, k2, c, rfl, full, by omega, fun b o hbS hbo => ?_⟩)
  exact moved.heap b o (by simp only [List.mem_cons, List.not_mem_nil, or_false, not_or]; exact ⟨hbS, Nat.ne_of_lt (Heap.lt_size hbo)⟩) (Heap.get?_push_of_some _ hbo)
theorem call_set_listI {l : Addr} {items : Array Value} (ns : List Int) {Q : Value → Shared → Prop} (hh : A.handled = none) (hl : s.heap.IsList l items) (hit : IntsAre items.toList ns) (hb : ns.length + 1 < scanBound)
    (h : ∀ (h' : Heap) (tk c : Nat), SetR w h' s.heap.objs.size (fun j => decide (j ∈ ns)) c → c ≤ ns.length → (∀ b o, s.heap.get? b = some o → h'.get? b = some o) → Q (.ref s.heap.objs.size) { s with heap := h', toks := tk }) :
    wpAny (model P w) A (call (.type "set") [.ref l]) Q E s := by
  obtain ⟨ob, hob, _⟩ := id hl
  refine set_shell (.ref l) (codeAny_mono (set_fill (E := E) (s1 := { s with heap := s.heap.push (eset w) }) ns hh (Heap.get?_push_size _ rfl) (hl.push _) (Nat.ne_of_gt (Heap.lt_size hob)) hit hb) fun r s2 hr => ?_)
  match r, hr with
  | .error e, hr => exact hr
  | .ok (.ret v), ⟨e, h2, k2, c, e2, full, hc, keep⟩ =>
    subst e2
    exact ⟨e, h h2 k2 c full hc fun b o e => keep b o (Nat.ne_of_lt (Heap.lt_size e)) (Heap.get?_push_of_some _ e)⟩
end
end Bw

namespace Bw
open PySem PySem.Spec PyProof.Rows L2
/-! sorted(set(xs)) -/
def tSset (K : PySem.W.Frag) (ta : TE) : TE := fun σ H Q => ta σ H fun x H1 => ∃ (l : Addr) (ns : List Int), x = .ref l ∧ SqL K H1 l (ns.map V.int) ∧ ns.length < 64 ∧
  ∀ (ms : List Int) (p : Addr), ms.Pairwise (· < ·) → (∀ k : Int, k ∈ ms ↔ k ∈ ns) → H1 p = none → Q (.ref p) (upd H1 p (.lst (ms.map V.int)))
theorem ints_of_vals : ∀ {ns : List Int} {us : List Value}, Vals (ns.map V.int) us → PyProof.Rows.IntsAre us ns
  | [], _, .nil => .nil
  | n :: ns, _, .cons r t => by
    obtain ⟨k, rfl⟩ := r
    exact .cons n k (ints_of_vals t)
theorem pe_sset {X : Cx} {a : Expr} {ta : TE} {p p2 q pos : Pos} (hg : Gl X "sorted") (hm : X.mg "sorted" = none) (hg2 : Gl X "set") (hm2 : X.mg "set" = none) (ha : PE X a ta) (hc : X.calm = true)
    (na : starEach [a] X.env = (false, eval a X.env) :: starEach [] X.env := by rfl) : PE X (.Call (.Name "sorted" p) [.Call (.Name "set" p2) [a] [] q] [] pos) (tSset X.K ta) := by
  refine ⟨fun pins s σ H Q I h => ?_⟩
  refine Call_ (ld_blt I hg hm boot_sorted ?_)
  refine PyProof.Rows.callWith_builtin1 (PyProof.Rows.args_cons ?_ rfl) rfl rfl
  refine Call_ (ld_blt I hg2 hm2 boot_set ?_)
  refine PyProof.Rows.callWith_type1 (PyProof.Rows.args_cons (thn (ha.run pins s σ H _ I h) fun v s1 ⟨x, H1, I1, r1, q1⟩ => PyProof.Rows.args_nil ?_) na) na rfl
  obtain ⟨l, ns, rfl, hq, hl, q1⟩ := q1
  cases r1
  obtain ⟨its, r, pl, hz⟩ := I1.list hq
  refine call_set_listI (P := X.prog) (w := X.w) ns (I1.ok.hd hc) pl.isList (by simpa using ints_of_vals r) (by unfold scanBound; omega) fun h' tk c R hcn hk => ?_
  refine PyProof.Rows.args_nil ?_
  have I2 : Inv X pins σ H1 { s1 with heap := h', toks := tk } := I1.kept fun b o e => hk b o e
  have R' : SetR X.w ({ s1 with heap := h', toks := tk } : Shared).heap s1.heap.objs.size (fun j => decide (j ∈ ns)) c := R
  generalize ({ s1 with heap := h', toks := tk } : Shared) = s2 at I2 R' ⊢
  refine sorted_set R' (I2.ok.hd hc) (by omega) fun s' p out c' ms k g o hp hg' hi hs hm' hl' => ?_
  have hlen : (ms.map V.int).length ≤ sizeLine := by rw [List.length_map, hl', sizeLine_eq]; omega
  have hn : H1 p = none := I2.hok.fresh hp
  have J : Inv X pins σ (upd H1 p (.lst (ms.map V.int))) { s2 with heap := s'.heap, gens := s'.gens, drawn := s'.drawn, toks := s'.toks } :=
    I2.call (ch := []) (Un.laid k hp hn) (I2.hok.laid k hp ⟨hlen, out.toList, c', vals_of_ints hi, hg'⟩) (by rw [g]; exact I2.bare) (fun _ z => nomatch z)
  have e : s' = { s2 with heap := s'.heap, gens := s'.gens, drawn := s'.drawn, toks := s'.toks } := by
    cases s'
    cases s2
    cases o
    rfl
  rw [e]
  exact ⟨.ref p, _, J, rfl, q1 ms p hs (fun k => by rw [hm' k, decide_eq_true_eq]) hn⟩
theorem intsD_some : ∀ {xs : List PyData} {ns : List Int}, intsD xs = some ns → xs = ns.map PyData.int
  | [], ns, h => by simp [intsD] at h; subst h; rfl
  | x :: r, ns, h => by
    cases x with
    | int i =>
      simp only [intsD] at h
      obtain ⟨ms, e1, e2⟩ := Option.map_eq_some_iff.mp h
      subst e2
      rw [intsD_some e1]; rfl
    | _ => simp [intsD] at h
theorem rpL_ints {G : Gm} {H : Hp} : ∀ {ns : List Int} {xs : List V}, RpL G H (ns.map PyData.int) xs → xs = ns.map V.int
  | [], xs, h => by simpa only [List.map_nil, RpL] using h
  | n :: ns, xs, h => by
    rw [List.map_cons, RpL] at h
    obtain ⟨v, vs, rfl, h1, h2⟩ := h
    simp only [Rp] at h1
    subst h1
    rw [rpL_ints h2]; rfl
theorem ints_rpl {G : Gm} {H : Hp} : ∀ ns : List Int, RpL G H (ns.map PyData.int) (ns.map V.int)
  | [] => RpL.nil
  | n :: ns => RpL.cons rp_int (ints_rpl ns)
/-- ascending lists with the same members are the same -/
theorem asc_ext : ∀ {a b : List Int}, a.Pairwise (· < ·) → b.Pairwise (· < ·) → (∀ k, k ∈ a ↔ k ∈ b) → a = b
  | [], [], _, _, _ => rfl
  | [], y :: b, _, _, h => by have := (h y).mpr (List.mem_cons_self ..); cases this
  | x :: a, [], _, _, h => by have := (h x).mp (List.mem_cons_self ..); cases this
  | x :: a, y :: b, ha, hb, h => by
    obtain ⟨a1, a2⟩ := List.pairwise_cons.mp ha
    obtain ⟨b1, b2⟩ := List.pairwise_cons.mp hb
    have e : x = y := by
      rcases List.mem_cons.mp ((h x).mp (List.mem_cons_self ..)) with e | e
      · exact e
      · rcases List.mem_cons.mp ((h y).mpr (List.mem_cons_self ..)) with e' | e'
        · exact e'.symm
        · have := a1 y e'; have := b1 x e; omega
    subst e
    rw [asc_ext a2 b2 fun k => ⟨fun hk => ?_, fun hk => ?_⟩]
    · rcases List.mem_cons.mp ((h k).mp (List.mem_cons_of_mem _ hk)) with e | e
      · subst e; have := a1 k hk; omega
      · exact e
    · rcases List.mem_cons.mp ((h k).mpr (List.mem_cons_of_mem _ hk)) with e | e
      · subst e; have := b1 k hk; omega
      · exact e
theorem eraseDupsBy_mem : ∀ (l acc : List Int) (k : Int), k ∈ List.eraseDupsBy.loop (fun a b => a == b) l acc ↔ k ∈ l ∨ k ∈ acc
  | [], acc, k => by simp [List.eraseDupsBy.loop]
  | x :: l, acc, k => by
    rw [List.eraseDupsBy.loop]
    cases h : acc.any (fun b => x == b) with
    | true =>
      simp only
      rw [eraseDupsBy_mem l acc k]
      have hx : x ∈ acc := by
        rw [List.any_eq_true] at h
        obtain ⟨y, hy, e⟩ := h
        rw [eq_of_beq e]; exact hy
      constructor
      · rintro (h | h)
        · exact .inl (List.mem_cons_of_mem _ h)
        · exact .inr h
      · rintro (h | h)
        · rcases List.mem_cons.mp h with h | h
          · subst h; exact .inr hx
          · exact .inl h
        · exact .inr h
    | false =>
      simp only
      rw [eraseDupsBy_mem l (x :: acc) k]
      simp only [List.mem_cons]
      constructor
      · rintro (h | h | h)
        · exact .inl (.inr h)
        · exact .inl (.inl h)
        · exact .inr h
      · rintro ((h | h) | h)
        · exact .inr (.inl h)
        · exact .inl h
        · exact .inr (.inr h)
theorem mem_eraseDups {l : List Int} {k : Int} : k ∈ l.eraseDups ↔ k ∈ l := by
  show k ∈ List.eraseDupsBy.loop (fun a b => a == b) l [] ↔ _
  rw [eraseDupsBy_mem]; simp
theorem eraseDupsBy_nodup : ∀ (l acc : List Int), acc.Nodup → (List.eraseDupsBy.loop (fun a b => a == b) l acc).Nodup
  | [], acc, h => by
    show acc.reverse.Nodup
    exact (List.reverse_perm acc).nodup_iff.mpr h
  | x :: l, acc, h => by
    rw [List.eraseDupsBy.loop]
    cases e : acc.any (fun b => x == b) with
    | true => exact eraseDupsBy_nodup l acc h
    | false =>
      refine eraseDupsBy_nodup l (x :: acc) (List.nodup_cons.mpr ⟨fun hx => ?_, h⟩)
      rw [List.any_eq_false] at e
      exact e x hx (by simp)
theorem ssetI_asc (ns : List Int) : (ssetI ns).Pairwise (· < ·) := by
  unfold ssetI
  have h1 : ((ns.eraseDups).mergeSort (fun a b => decide (a ≤ b))).Pairwise (fun a b => decide (a ≤ b) = true) :=
    List.pairwise_mergeSort (fun a b c h1 h2 => by simp only [decide_eq_true_eq] at *; omega) (fun a b => by simp only [Bool.or_eq_true, decide_eq_true_eq]; omega) _
  have h2 : ((ns.eraseDups).mergeSort (fun a b => decide (a ≤ b))).Nodup := (List.mergeSort_perm _ _).nodup_iff.mpr (eraseDupsBy_nodup ns [] List.nodup_nil)
  exact L2.lt_of_le_nodup _ (h1.imp fun h => by simpa using h) h2
theorem ssetI_mem {ns : List Int} {k : Int} : k ∈ ssetI ns ↔ k ∈ ns := by
  unfold ssetI
  rw [(List.mergeSort_perm _ _).mem_iff, mem_eraseDups]
section
variable {X : Cx} {G : Gm} {σ : L2.St} {H : Hp} {Q : VK}
theorem x_sset (hK : G.K = X.K) {f : Fx} (h : tX G (fun ρ => (f ρ).bind fun x => match x.2 with
    | .list xs => (intsD xs).bind fun ns => if ns.length < 64 then some (.nw, .list ((ssetI ns).map PyData.int)) else none
    | _ => none) σ H Q) : tSset X.K (tX G f) σ H Q := by
  obtain ⟨Hf, ρ, k, d, S, e, q⟩ := h
  obtain ⟨x, e1, e⟩ := Option.bind_eq_some_iff.mp e
  obtain ⟨k', d'⟩ := x
  dsimp only at e
  split at e
  · obtain ⟨ns, e2, e⟩ := Option.bind_eq_some_iff.mp e
    split at e
    · rename_i c
      cases e
      refine x_view S e1 fun v Hf1 H1 g1 r1 => ?_
      obtain ⟨p, xs, rfl, h1, h2⟩ := vw_list g1.sub r1.vw
      rw [intsD_some e2] at h2
      obtain rfl := rpL_ints h2
      refine ⟨p, ns, rfl, sqL_of h1, c, fun ms p' hp hm hn => ?_⟩
      obtain rfl : ms = ssetI ns := asc_ext hp (ssetI_asc ns) fun k => by rw [hm k, ssetI_mem]
      exact fin_lst g1.sub (fun v Hf' H' g2 r2 => q v Hf' H' (g1.trans g2) (r2.early' g1 S.sub)) (ints_rpl _) hn
    · cases e
  · cases e
/-! a dict display -/
theorem evKV_cons {gl : Str → Option PyData} {c : Str → List PyData → Option PyData} {k v : E} {r : Es} {ρ : Rho} : evKV gl c (.cons k (.cons v r)) ρ = (ev gl c k ρ).bind fun kk => if isKey kk.2 = true then (kz (ev gl c v ρ)).bind fun vv => (evKV gl c r ρ).map fun l => (kk.2, vv) :: l else none := by rw [evKV]
/-- pairs, read -/
def tKV (G : Gm) (f : Rho → Option (List (PyData × PyData))) : L2.St → Hp → (List (V × V) → Hp → Prop) → Prop := fun σ H Q => ∃ Hf ρ l, Sl G Hf H σ ρ ∧ f ρ = some l ∧
  ∀ (kvs : List (Key × V)) Hf' H', Gr Hf H Hf' H' → RpD G Hf' l kvs → Q (kvs.map fun kv => (kV kv.1, kv.2)) H'
theorem kv_nil {Qs : List (V × V) → Hp → Prop} (h : tKV G (fun _ => some []) σ H Qs) : tPairs [] σ H Qs := by
  obtain ⟨Hf, ρ, l, S, e, q⟩ := h
  cases e
  exact q [] Hf H (Gr.refl S.sub) (by simp only [RpD])
theorem kv_cons {f g : Fx} {r : Rho → Option (List (PyData × PyData))} {trs : List (TE × TE)} {Qs : List (V × V) → Hp → Prop} (ht : ∀ σ H Q, tKV G r σ H Q → tPairs trs σ H Q)
    (h : tKV G (fun ρ => (f ρ).bind fun kk => if isKey kk.2 = true then (kz (g ρ)).bind fun vv => (r ρ).map fun l => (kk.2, vv) :: l else none) σ H Qs) : tPairs ((tX G f, tX G g) :: trs) σ H Qs := by
  obtain ⟨Hf, ρ, l, S, e, q⟩ := h
  obtain ⟨x, e1, e⟩ := Option.bind_eq_some_iff.mp e
  split at e
  · rename_i c
    obtain ⟨y, e2, e⟩ := Option.bind_eq_some_iff.mp e
    obtain ⟨l', e3, e4⟩ := Option.map_eq_some_iff.mp e
    subst e4
    refine x_view S e1 fun v Hf1 H1 g1 r1 => x_kz (S.mono g1) e2 fun w Hf2 H2 g2 r2 => ht σ H2 _ ⟨Hf2, ρ, l', (S.mono g1).mono g2, e3, fun kvs Hf3 H3 g3 r3 => ?_⟩
    obtain ⟨kk, _, hk, rfl⟩ := key_rp c r1.vw
    exact q ((kk, w) :: kvs) Hf3 H3 ((g1.trans g2).trans g3) (by simp only [RpD]; exact ⟨kk, w, kvs, rfl, hk, r2.mono g3.fx, r3⟩)
  · cases e
theorem rpD_merge {Hf : Hp} : ∀ {l : List (PyData × PyData)} {kvs : List (Key × V)} {acc : List (PyData × PyData)} {ks : List (Key × V)}, RpD G Hf l kvs → RpD G Hf acc ks →
    RpD G Hf (l.foldl (fun acc p => putD acc p.1 p.2) acc) (mergeK ks kvs)
  | [], kvs, acc, ks, h, h' => by simp only [RpD] at h; subst h; exact h'
  | (a, d) :: l, kvs, acc, ks, h, h' => by
    simp only [RpD] at h
    obtain ⟨kk, v, rest, rfl, rfl, h1, h2⟩ := h
    have := rpD_merge h2 (rpD_put kk h1 h')
    exact this
theorem x_dis {r : Rho → Option (List (PyData × PyData))} {trs : List (TE × TE)} (ht : ∀ σ H Q, tKV G r σ H Q → tPairs trs σ H Q)
    (h : tX G (fun ρ => (r ρ).bind fun kvs => if kvs.length ≤ 15 then some (.nw, .dict (kvs.foldl (fun acc p => putD acc p.1 p.2) [])) else none) σ H Q) : tDisp trs σ H Q := by
  obtain ⟨Hf, ρ, k, d, S, e, q⟩ := h
  obtain ⟨l, e1, e⟩ := Option.bind_eq_some_iff.mp e
  split at e
  · rename_i c
    cases e
    intro p hp
    have g0 := Gr.newO (o := .dK []) S.sub hp
    refine ht σ _ _ ⟨Hf, ρ, l, S.mono g0, e1, fun kvs Hf1 H1 g1 r1 => ?_⟩
    obtain ⟨n1, a1⟩ := g1.un p _ upd_same (S.sub.no hp)
    refine ⟨a1, kvs, rfl, by rw [rpD_length r1]; exact c, q _ Hf1 _ ((g0.trans g1).mut hp n1) ⟨p, rfl, hp, n1, _, upd_same, rpD_merge r1 (by simp only [RpD])⟩⟩
  · cases e
theorem x_dis0 (h : tX G (fun ρ => some (.nw, .dict [])) σ H Q) : tDNewK σ H Q := by
  obtain ⟨Hf, ρ, k, d, S, e, q⟩ := h
  cases e
  intro p hp
  exact q _ Hf _ (Gr.newO S.sub hp) ⟨p, rfl, hp, S.sub.no hp, _, upd_same, by simp only [RpD]⟩
/-! list(range(..)), tuple(range(..)) -/
theorem rpL_range {Hf : Hp} (a b : Int) : RpL G Hf (rangeD a b) (rgV a b) := by
  unfold rangeD rgV
  generalize List.range (b - a).toNat = l
  induction l with
  | nil => exact RpL.nil
  | cons i l ih => exact RpL.cons rp_int ih
def rgB (a b : Int) : Prop := -100000000 ≤ a ∧ a ≤ 100000000 ∧ -100000000 ≤ b ∧ b ≤ 100000000 ∧ b - a ≤ 100000
theorem x_rg1 {f : Fx} (h : tX G (fun ρ => (oneI (f ρ)).bind fun h => if -100000000 ≤ (0 : Int) ∧ (0 : Int) ≤ 100000000 ∧ -100000000 ≤ h ∧ h ≤ 100000000 ∧ h - 0 ≤ 100000 then some (.nw, .list (rangeD 0 h)) else none) σ H Q) : tLstRg (tRg1 (tX G f)) σ H Q := by
  obtain ⟨Hf, ρ, k, d, S, e, q⟩ := h
  obtain ⟨i, e1, e⟩ := Option.bind_eq_some_iff.mp e
  split at e
  · rename_i c
    cases e
    refine x_int S e1 fun Hf1 H1 g1 => ⟨i, rfl, ⟨by omega, by omega, by omega, by omega, by omega⟩, fun p hp => ?_⟩
    exact fin_lst g1.sub (fun v Hf' H' g2 r2 => q v Hf' H' (g1.trans g2) (r2.early' g1 S.sub)) (rpL_range 0 i) hp
  · cases e
theorem x_rg2 {f g : Fx} (h : tX G (fun ρ => (oneI (f ρ)).bind fun l => (oneI (g ρ)).bind fun h => if -100000000 ≤ l ∧ l ≤ 100000000 ∧ -100000000 ≤ h ∧ h ≤ 100000000 ∧ h - l ≤ 100000 then some (.nw, .list (rangeD l h)) else none) σ H Q) : tLstRg (tRg2 (tX G f) (tX G g)) σ H Q := by
  obtain ⟨Hf, ρ, k, d, S, e, q⟩ := h
  obtain ⟨i, e1, e⟩ := Option.bind_eq_some_iff.mp e
  obtain ⟨j, e2, e⟩ := Option.bind_eq_some_iff.mp e
  split at e
  · rename_i c
    cases e
    refine x_int S e1 fun Hf1 H1 g1 => x_int (S.mono g1) e2 fun Hf2 H2 g2 => ⟨i, j, rfl, rfl, ⟨by omega, by omega, by omega, by omega, by omega⟩, fun p hp => ?_⟩
    have g12 := g1.trans g2
    exact fin_lst g12.sub (fun v Hf' H' g3 r2 => q v Hf' H' (g12.trans g3) (r2.early' g12 S.sub)) (rpL_range i j) hp
  · cases e
theorem x_tg1 {f : Fx} (h : tX G (fun ρ => (oneI (f ρ)).bind fun h => if -100000000 ≤ (0 : Int) ∧ (0 : Int) ≤ 100000000 ∧ -100000000 ≤ h ∧ h ≤ 100000000 ∧ h - 0 ≤ 100000 then some (.fz, .tuple (rangeD 0 h)) else none) σ H Q) : tTupRg (tRg1 (tX G f)) σ H Q := by
  obtain ⟨Hf, ρ, k, d, S, e, q⟩ := h
  obtain ⟨i, e1, e⟩ := Option.bind_eq_some_iff.mp e
  split at e
  · rename_i c
    cases e
    refine x_int S e1 fun Hf1 H1 g1 => ⟨i, rfl, ⟨by omega, by omega, by omega, by omega, by omega⟩, fun p hp => ?_⟩
    exact fin_tup g1.sub (fun v Hf' H' g2 r2 => q v Hf' H' (g1.trans g2) (r2.early' g1 S.sub)) (rpL_range 0 i) hp
  · cases e
theorem x_tg2 {f g : Fx} (h : tX G (fun ρ => (oneI (f ρ)).bind fun l => (oneI (g ρ)).bind fun h => if -100000000 ≤ l ∧ l ≤ 100000000 ∧ -100000000 ≤ h ∧ h ≤ 100000000 ∧ h - l ≤ 100000 then some (.fz, .tuple (rangeD l h)) else none) σ H Q) : tTupRg (tRg2 (tX G f) (tX G g)) σ H Q := by
  obtain ⟨Hf, ρ, k, d, S, e, q⟩ := h
  obtain ⟨i, e1, e⟩ := Option.bind_eq_some_iff.mp e
  obtain ⟨j, e2, e⟩ := Option.bind_eq_some_iff.mp e
  split at e
  · rename_i c
    cases e
    refine x_int S e1 fun Hf1 H1 g1 => x_int (S.mono g1) e2 fun Hf2 H2 g2 => ⟨i, j, rfl, rfl, ⟨by omega, by omega, by omega, by omega, by omega⟩, fun p hp => ?_⟩
    have g12 := g1.trans g2
    exact fin_tup g12.sub (fun v Hf' H' g3 r2 => q v Hf' H' (g12.trans g3) (r2.early' g12 S.sub)) (rpL_range i j) hp
  · cases e
/-! isinstance -/
theorem tyx_tup {K : PySem.W.Frag} {a : Addr} {xs : List V} (h : SqT K H a xs) : TyX K H (.ref a) (.type "tuple") := by
  rcases h with (h | ⟨o, h⟩) | ⟨o, _, _, h1, h2, _⟩
  · exact .base (.tup h)
  · exact .fTuple h
  · exact .kTuple h1 h2
theorem kit_ii : kitB "int" "int" = some true := by decide +kernel
theorem kit_ib : kitB "int" "bool" = some false := by decide +kernel
theorem kit_it : kitB "int" "tuple" = some false := by decide +kernel
theorem kit_is : kitB "int" "str" = some false := by decide +kernel
theorem kit_bi : kitB "bool" "int" = some true := by decide +kernel
theorem kit_bb : kitB "bool" "bool" = some true := by decide +kernel
theorem kit_tt : kitB "tuple" "tuple" = some true := by decide +kernel
theorem kit_ss : kitB "str" "str" = some true := by decide +kernel
theorem x_isi (hK : G.K = X.K) {f : Fx} {ty : String} (h : tX G (fun ρ => (f ρ).bind fun x => (isiD ty x.2).map fun b => (.fz, .bool b)) σ H Q) : tCB (rIsi X.K) (tCons (tX G f) (tCons (tC (.ty ty)) tNil)) σ H Q := by
  obtain ⟨Hf, ρ, k, d, S, e, q⟩ := h
  obtain ⟨x, e1, e⟩ := Option.bind_eq_some_iff.mp e
  obtain ⟨b, e2, e3⟩ := Option.map_eq_some_iff.mp e
  cases e3
  refine x_view S e1 fun v Hf1 H1 g1 r1 => ?_
  have fin : ∀ {tv : String}, TyX X.K H1 v (.type tv) → kitB tv ty = some b → rIsi X.K [v, .ty ty] H1 Q := fun t k => ⟨v, .ty ty, _, .type ty, b, rfl, .ty ty, t, kit_ty k, q _ Hf1 H1 g1 (rk rp_bl)⟩
  have vx := r1.vw
  show rIsi X.K [v, .ty ty] H1 Q
  unfold isiD at e2
  split at e2
  · rename_i hx
    rw [hx] at vx
    obtain rfl := vw_int vx
    split at e2
    · rename_i c; subst c; cases e2; exact fin (.base (.int _)) kit_ii
    · split at e2
      · rename_i c
        cases e2
        rcases c with c | c | c <;> subst c
        · exact fin (.base (.int _)) kit_ib
        · exact fin (.base (.int _)) kit_it
        · exact fin (.base (.int _)) kit_is
      · cases e2
  · rename_i hx
    rw [hx] at vx
    obtain rfl := vw_bl vx
    split at e2
    · rename_i c
      cases e2
      rcases c with c | c <;> subst c
      · exact fin (.base (.bl _)) kit_bi
      · exact fin (.base (.bl _)) kit_bb
    · cases e2
  · rename_i hx
    rw [hx] at vx
    obtain ⟨p, xs, rfl, t, _⟩ := vw_tuple g1.sub vx
    rw [hK] at t
    split at e2
    · rename_i c; subst c; cases e2; exact fin (tyx_tup t) kit_tt
    · cases e2
  · rename_i hx
    rw [hx] at vx
    obtain rfl := vw_str vx
    split at e2
    · rename_i c; subst c; cases e2; exact fin (.base (.str _)) kit_ss
    · cases e2
  · cases e2
end
end Bw

namespace Bw
open PySem PySem.Spec PyProof.Rows L2
/-! statements on data -/
inductive Fl
  | nx (ρ : Rho) | bk (ρ : Rho) | ct (ρ : Rho) | rt (d : PyData)
def frzR (ρ : Rho) (i : Nat) : Rho := match ρ[i]? with
  | some (some (true, d)) => ρ.set i (some (false, d))
  | _ => ρ
def frzL : List Nat → Rho → Rho
  | [], ρ => ρ
  | i :: is, ρ => frzL is (frzR ρ i)
def appS (i : Nat) (d : PyData) (ρ : Rho) : Option Fl := match ρ[i]? with
  | some (some (true, .list ds)) => if ds.length < 100000 then some (.nx (ρ.set i (some (true, .list (ds ++ [d]))))) else none
  | _ => none
def extS (i : Nat) (d : PyData) (ρ : Rho) : Option Fl := match ρ[i]? with
  | some (some (true, .list ds)) => match d with
    | .list es => if ds.length + es.length ≤ 100000 then some (.nx (ρ.set i (some (true, .list (ds ++ es))))) else none
    | _ => none
  | _ => none
def varOf : E → Option Nat
  | .var j => some j
  | _ => none
def setS (i : Nat) (e : Option Nat) (x : Kd × PyData) (ρ : Rho) : Option Fl := match x.1 with
  | .fz => some (.nx (ρ.set i (some (false, x.2))))
  | .nw => some (.nx (ρ.set i (some (true, x.2))))
  | .bw => match e with
    | some j => some (.nx ((frzR ρ j).set i (some (false, x.2))))
    | none => none
def parS (i j : Nat) (x y : Kd × PyData) (ρ : Rho) : Option Fl :=
  if i ≠ j ∧ x.1 ≠ .bw ∧ y.1 ≠ .bw then some (.nx ((ρ.set i (some (x.1 == .nw, x.2))).set j (some (y.1 == .nw, y.2)))) else none
def augI : BinO → Option (Int → Int → Int)
  | .add => some fun i j => i + j
  | .sub => some fun i j => i - j
  | _ => none
def augS (i : Nat) (o : BinO) (y : PyData) (ρ : Rho) : Option Fl := match ρ[i]? with
  | some (some (false, .int a)) => match y with
    | .int b => (augI o).map fun f => .nx (ρ.set i (some (false, .int (f a b))))
    | _ => none
  | _ => none
def putS (i : Nat) (k d : PyData) (ρ : Rho) : Option Fl := match ρ[i]? with
  | some (some (true, .dict kvs)) => if isKey k = true ∧ kvs.length < 100000 then some (.nx (ρ.set i (some (true, .dict (putD kvs k d))))) else none
  | some (some (true, .list ds)) => match k with
    | .int j => (ixN ds.length j).map fun n => .nx (ρ.set i (some (true, .list (ds.set n d))))
    | _ => none
  | _ => none
def seqF (f : Fl) (k : Rho → Option Fl) : Option Fl := match f with
  | .nx ρ => k ρ
  | f => some f
def forF (g : PyData → Rho → Option Rho) (b : Rho → Option Fl) : List PyData → Rho → Option Fl
  | [], ρ => some (.nx ρ)
  | x :: r, ρ => (g x ρ).bind fun ρ1 => (b ρ1).bind fun f => match f with
    | .nx ρ' => forF g b r ρ'
    | .ct ρ' => forF g b r ρ'
    | .bk ρ' => some (.nx ρ')
    | .rt d => some (.rt d)
def loopF (t : Rho → Option Bool) (b : Rho → Option Fl) : Nat → Rho → Option Fl
  | 0, _ => none
  | n + 1, ρ => (t ρ).bind fun r => if r = true then (b ρ).bind fun f => match f with
      | .nx ρ' => loopF t b n ρ'
      | .ct ρ' => loopF t b n ρ'
      | .bk ρ' => some (.nx ρ')
      | .rt d => some (.rt d)
    else some (.nx ρ)
section
variable (gl : Str → Option PyData) (c : Str → List PyData → Option PyData) (n : Nat)
def evS : Sm → Rho → Option Fl
  | .frz is, ρ => some (.nx (frzL is ρ))
  | .app i e, ρ => (kz (ev gl c e ρ)).bind fun d => appS i d ρ
  | .ext i e, ρ => (ev gl c e ρ).bind fun x => extS i x.2 ρ
  | .drop e, ρ => (ev gl c e ρ).map fun _ => .nx ρ
  | .set i e, ρ => (ev gl c e ρ).bind fun x => setS i (varOf e) x ρ
  | .setT t e, ρ => (kz (ev gl c e ρ)).bind fun d => (bindT t d ρ).map .nx
  | .par i j a b, ρ => (ev gl c a ρ).bind fun x => (ev gl c b ρ).bind fun y => parS i j x y ρ
  | .aug i o e, ρ => (ev gl c e ρ).bind fun y => augS i o y.2 ρ
  | .put i k v, ρ => (kz (ev gl c v ρ)).bind fun d => (ev gl c k ρ).bind fun kk => putS i kk.2 d ρ
  | .augPut _ _ _ _, _ => none
  | .ite t a b, ρ => (bz (ev gl c t ρ)).bind fun r => if r = true then evS a ρ else evS b ρ
  | .for_ t it b, ρ => (evI gl c it ρ).bind fun r => if r.1 = false then forF (bindT t) (evS b) r.2 ρ else none
  | .while_ t b, ρ => loopF (fun ρ => bz (ev gl c t ρ)) (evS b) n ρ
  | .ret e, ρ => (kz (ev gl c e ρ)).map .rt
  | .retN, _ => some (.rt .none)
  | .pass, ρ => some (.nx ρ)
  | .brk, ρ => some (.bk ρ)
  | .cont, ρ => some (.ct ρ)
  | .never, _ => none
  | .nil, ρ => some (.nx ρ)
  | .cons a b, ρ => (evS a ρ).bind fun f => seqF f (evS b)
end
/-! soundness -/
def Mv (Hf H Hf' H' : Hp) : Prop := Ex Hf Hf' ∧ Lk H H'
theorem Mv.refl (Hf H : Hp) : Mv Hf H Hf H := ⟨Ex.refl _, Lk.refl _⟩
theorem Mv.trans {Hf H Hf1 H1 Hf2 H2 : Hp} (a : Mv Hf H Hf1 H1) (b : Mv Hf1 H1 Hf2 H2) : Mv Hf H Hf2 H2 := ⟨a.1.trans b.1, a.2.trans b.2⟩
theorem Gr.mv {Hf H Hf1 H1 : Hp} (a : Gr Hf H Hf1 H1) : Mv Hf H Hf1 H1 := ⟨a.fx, a.lk⟩
structure Fr (G : Gm) (Hfe He Hf H : Hp) (σ : L2.St) (ρ : Rho) : Prop where
  sl : Sl G Hf H σ ρ
  gr : Gr Hfe He Hf H
  sb : Sub Hfe He
  ow : ∀ (i : Nat) (d : PyData) (p : Addr), ρ[i]? = some (some (true, d)) → σ[i]? = some (some (.ref p)) → He p = none
section
variable {G : Gm} {Hfe He Hf H : Hp} {σ : L2.St} {ρ : Rho}
theorem Fr.mono {Hf' H' : Hp} (F : Fr G Hfe He Hf H σ ρ) (g : Gr Hf H Hf' H') : Fr G Hfe He Hf' H' σ ρ := ⟨F.sl.mono g, F.gr.trans g, F.sb, F.ow⟩
theorem set_true {ρ : Rho} {i j : Nat} {o : Option (Bool × PyData)} {d : PyData} (h : (ρ.set i o)[j]? = some (some (true, d))) : (i = j ∧ o = some (true, d) ∧ i < ρ.length) ∨ (i ≠ j ∧ ρ[j]? = some (some (true, d))) := by
  by_cases e : i = j
  · subst e
    by_cases hi : i < ρ.length
    · rw [List.getElem?_set_self hi] at h
      cases h
      exact .inl ⟨rfl, rfl, hi⟩
    · rw [List.getElem?_eq_none (by rw [List.length_set]; omega)] at h; cases h
  · rw [List.getElem?_set_ne e] at h
    exact .inr ⟨e, h⟩
theorem set_false {ρ : Rho} {i j : Nat} {o : Option (Bool × PyData)} {d : PyData} (h : (ρ.set i o)[j]? = some (some (false, d))) : (i = j ∧ o = some (false, d) ∧ i < ρ.length) ∨ (i ≠ j ∧ ρ[j]? = some (some (false, d))) := by
  by_cases e : i = j
  · subst e
    by_cases hi : i < ρ.length
    · rw [List.getElem?_set_self hi] at h
      cases h
      exact .inl ⟨rfl, rfl, hi⟩
    · rw [List.getElem?_eq_none (by rw [List.length_set]; omega)] at h; cases h
  · rw [List.getElem?_set_ne e] at h
    exact .inr ⟨e, h⟩
theorem Fr.fzSet {i : Nat} {d : PyData} {v : V} (F : Fr G Hfe He Hf H σ ρ) (r : Rp G Hf d v) : Fr G Hfe He Hf H (σ.set i (some v)) (ρ.set i (some (false, d))) where
  sl := F.sl.fzSet r
  gr := F.gr
  sb := F.sb
  ow := fun j e p h1 h2 => by
    rcases set_true h1 with ⟨_, z, _⟩ | ⟨ne, h1⟩
    · cases z
    · rw [List.getElem?_set_ne ne] at h2
      exact F.ow j e p h1 h2
theorem Fr.less {σ' : L2.St} {ρ' : Rho} (F : Fr G Hfe He Hf H σ ρ) (S : Sl G Hf H σ' ρ') (l : Less ρ ρ' σ σ') : Fr G Hfe He Hf H σ' ρ' where
  sl := S
  gr := F.gr
  sb := F.sb
  ow := fun j e p h1 h2 => by
    obtain ⟨a, b⟩ := l j e h1
    rw [b] at h2
    exact F.ow j e p a h2
/-- a name for a new thing -/
theorem Fr.owSet {i : Nat} {d : PyData} {p : Addr} (F : Fr G Hfe He Hf H σ ρ) (h0 : He p = none) (hf : Hf p = none) (ho : OwnAt G Hf H p d)
    (hn : ∀ (j : Nat) (e : PyData), ρ[j]? = some (some (true, e)) → σ[j]? ≠ some (some (.ref p))) : Fr G Hfe He Hf H (σ.set i (some (.ref p))) (ρ.set i (some (true, d))) where
  gr := F.gr
  sb := F.sb
  ow := fun j e q h1 h2 => by
    rcases set_true h1 with ⟨rfl, z, hi⟩ | ⟨ne, h1⟩
    · rw [List.getElem?_set_self (by rw [F.sl.len]; exact hi)] at h2
      cases h2
      exact h0
    · rw [List.getElem?_set_ne ne] at h2
      exact F.ow j e q h1 h2
  sl :=
    { sub := F.sl.sub
      len := by rw [List.length_set, List.length_set, F.sl.len]
      fz := fun j e h1 => by
        rcases set_false h1 with ⟨_, z, _⟩ | ⟨ne, h1⟩
        · cases z
        · rw [List.getElem?_set_ne ne]; exact F.sl.fz j e h1
      ow := fun j e h1 => by
        rcases set_true h1 with ⟨rfl, z, hi⟩ | ⟨ne, h1⟩
        · cases z
          exact ⟨p, List.getElem?_set_self (by rw [F.sl.len]; exact hi), hf, ho⟩
        · rw [List.getElem?_set_ne ne]; exact F.sl.ow j e h1
      inj := fun j k e e' q h1 h2 h3 h4 => by
        rcases set_true h1 with ⟨rfl, z, hi⟩ | ⟨ne, h1⟩
        · rcases set_true h2 with ⟨rfl, z2, hi2⟩ | ⟨ne2, h2⟩
          · rfl
          · rw [List.getElem?_set_self (by rw [F.sl.len]; exact hi)] at h3
            cases h3
            rw [List.getElem?_set_ne ne2] at h4
            exact absurd h4 (hn k _ h2)
        · rw [List.getElem?_set_ne ne] at h3
          rcases set_true h2 with ⟨rfl, z2, hi2⟩ | ⟨ne2, h2⟩
          · rw [List.getElem?_set_self (by rw [F.sl.len]; exact hi2)] at h4
            cases h4
            exact absurd h3 (hn j _ h1)
          · rw [List.getElem?_set_ne ne2] at h4
            exact F.sl.inj j k e e' q h1 h2 h3 h4 }
/-- one's own thing, written -/
theorem Fr.mut {i : Nat} {d d' : PyData} {p : Addr} {o o' : HO} (F : Fr G Hfe He Hf H σ ρ) (hi : ρ[i]? = some (some (true, d))) (hs : σ[i]? = some (some (.ref p))) (hf : Hf p = none) (hp : H p = some o) (hz : ∀ a b, o ≠ .frz a b) (ho : OwnAt G Hf (upd H p o') p d') :
    Fr G Hfe He Hf (upd H p o') σ (ρ.set i (some (true, d'))) ∧ Mv Hf H Hf (upd H p o') := by
  refine ⟨⟨?_, F.gr.mut (F.ow i d p hi hs) hf, F.sb, fun j e q h1 h2 => ?_⟩, Ex.refl _, Lk.put hp hz⟩
  · refine ⟨fun b u e => ?_, by rw [List.length_set, F.sl.len], fun j e h1 => ?_, fun j e h1 => ?_, fun j k e e' q h1 h2 h3 h4 => ?_⟩
    · rw [upd_ne (fun z => by subst z; rw [hf] at e; cases e)]; exact F.sl.sub b u e
    · rcases set_false h1 with ⟨_, z, _⟩ | ⟨ne, h1⟩
      · cases z
      · exact F.sl.fz j e h1
    · rcases set_true h1 with ⟨rfl, z, _⟩ | ⟨ne, h1⟩
      · cases z
        exact ⟨p, hs, hf, ho⟩
      · obtain ⟨q, q1, q2, q3⟩ := F.sl.ow j e h1
        refine ⟨q, q1, q2, ?_⟩
        have hq : q ≠ p := fun z => by subst z; exact ne (F.sl.inj i j d e q hi h1 hs q1)
        cases e with
        | list ds => obtain ⟨xs, a, b⟩ := q3; exact ⟨xs, by rw [upd_ne hq]; exact a, b⟩
        | dict ds => obtain ⟨xs, a, b⟩ := q3; exact ⟨xs, by rw [upd_ne hq]; exact a, b⟩
        | _ => exact q3.elim
    · have f : ∀ {j : Nat} {e : PyData}, (ρ.set i (some (true, d')))[j]? = some (some (true, e)) → ∃ e', ρ[j]? = some (some (true, e')) := fun {j e} h => by
        rcases set_true h with ⟨rfl, _, _⟩ | ⟨_, h⟩
        · exact ⟨d, hi⟩
        · exact ⟨_, h⟩
      obtain ⟨a1, h1⟩ := f h1
      obtain ⟨a2, h2⟩ := f h2
      exact F.sl.inj j k a1 a2 q h1 h2 h3 h4
  · rcases set_true h1 with ⟨rfl, _, _⟩ | ⟨_, h1⟩
    · exact F.ow i d q hi h2
    · exact F.ow j e q h1 h2
/-- one's own thing, frozen -/
theorem Fr.frzI {i : Nat} {d : PyData} (F : Fr G Hfe He Hf H σ ρ) (hi : ρ[i]? = some (some (true, d))) : ∃ Hf' v, σ[i]? = some (some v) ∧ Rp G Hf' d v ∧ Fr G Hfe He Hf' H σ (ρ.set i (some (false, d))) ∧ Mv Hf H Hf' H := by
  obtain ⟨p, hs, hf, ho⟩ := F.sl.ow i d hi
  obtain ⟨o, hp, rp⟩ := ho.frz hf
  refine ⟨upd Hf p o, .ref p, hs, rp, ⟨?_, F.gr.frz (F.ow i d p hi hs) hp hf, F.sb, fun j e q h1 h2 => ?_⟩, Ex.new hf, Lk.refl _⟩
  · refine ⟨(F.gr.frz (F.ow i d p hi hs) hp hf).sub, by rw [List.length_set, F.sl.len], fun j e h1 => ?_, fun j e h1 => ?_, fun j k e e' q h1 h2 h3 h4 => ?_⟩
    · rcases set_false h1 with ⟨rfl, z, _⟩ | ⟨ne, h1⟩
      · cases z
        exact ⟨_, hs, rp⟩
      · obtain ⟨v, h2, h3⟩ := F.sl.fz j e h1
        exact ⟨v, h2, h3.mono (Ex.new hf)⟩
    · rcases set_true h1 with ⟨rfl, z, _⟩ | ⟨ne, h1⟩
      · cases z
      · obtain ⟨q, q1, q2, q3⟩ := F.sl.ow j e h1
        have hq : q ≠ p := fun z => by subst z; exact ne (F.sl.inj i j d e q hi h1 hs q1)
        refine ⟨q, q1, by rw [upd_ne hq]; exact q2, ?_⟩
        cases e with
        | list ds => obtain ⟨xs, a, b⟩ := q3; exact ⟨xs, a, b.mono (Ex.new hf)⟩
        | dict ds => obtain ⟨xs, a, b⟩ := q3; exact ⟨xs, a, b.mono (Ex.new hf)⟩
        | _ => exact q3.elim
    · rcases set_true h1 with ⟨_, z, _⟩ | ⟨_, h1⟩
      · cases z
      · rcases set_true h2 with ⟨_, z, _⟩ | ⟨_, h2⟩
        · cases z
        · exact F.sl.inj j k e e' q h1 h2 h3 h4
  · rcases set_true h1 with ⟨_, z, _⟩ | ⟨_, h1⟩
    · cases z
    · exact F.ow j e q h1 h2
theorem Fr.frzR (F : Fr G Hfe He Hf H σ ρ) (i : Nat) : ∃ Hf', Fr G Hfe He Hf' H σ (frzR ρ i) ∧ Mv Hf H Hf' H := by
  unfold Bw.frzR
  split
  · rename_i d h
    obtain ⟨Hf', v, _, _, F', m⟩ := F.frzI h
    exact ⟨Hf', F', m⟩
  · exact ⟨Hf, F, Mv.refl _ _⟩
theorem Fr.frzL : ∀ (is : List Nat) {Hf : Hp} {ρ : Rho}, Fr G Hfe He Hf H σ ρ → ∃ Hf', Fr G Hfe He Hf' H σ (frzL is ρ) ∧ Mv Hf H Hf' H
  | [], Hf, ρ, F => ⟨Hf, F, Mv.refl _ _⟩
  | i :: is, Hf, ρ, F => by
    obtain ⟨Hf1, F1, m1⟩ := F.frzR i
    obtain ⟨Hf2, F2, m2⟩ := Fr.frzL is F1
    exact ⟨Hf2, F2, m1.trans m2⟩
def Post (G : Gm) (Hfe He Hf H : Hp) (D : Ends) : Fl → Prop
  | .nx ρ' => ∀ σ' Hf' H', Fr G Hfe He Hf' H' σ' ρ' → Mv Hf H Hf' H' → D.nx σ' H'
  | .bk ρ' => ∀ σ' Hf' H', Fr G Hfe He Hf' H' σ' ρ' → Mv Hf H Hf' H' → D.bk σ' H'
  | .ct ρ' => ∀ σ' Hf' H', Fr G Hfe He Hf' H' σ' ρ' → Mv Hf H Hf' H' → D.ct σ' H'
  | .rt d => ∀ v Hf' H', Gr Hfe He Hf' H' → Rp G Hf' d v → D.rt v H'
theorem Post.move {D : Ends} {fl : Fl} {Hf' H' : Hp} (m : Mv Hf H Hf' H') (h : Post G Hfe He Hf H D fl) : Post G Hfe He Hf' H' D fl := by
  cases fl with
  | nx ρ' => exact fun σ' Hf2 H2 F m2 => h σ' Hf2 H2 F (m.trans m2)
  | bk ρ' => exact fun σ' Hf2 H2 F m2 => h σ' Hf2 H2 F (m.trans m2)
  | ct ρ' => exact fun σ' Hf2 H2 F m2 => h σ' Hf2 H2 F (m.trans m2)
  | rt d => exact h
def tS (G : Gm) (f : Rho → Option Fl) : TS := fun D σ H => ∃ Hfe He Hf ρ fl, Fr G Hfe He Hf H σ ρ ∧ f ρ = some fl ∧ Post G Hfe He Hf H D fl
end
section
variable {X : Cx} {G : Gm} {σ : L2.St} {H : Hp} {D : Ends}
theorem s_ret {f : Fx} (h : tS G (fun ρ => (kz (f ρ)).map .rt) D σ H) : tRet (tX G f) D σ H := by
  obtain ⟨Hfe, He, Hf, ρ, fl, F, e, q⟩ := h
  obtain ⟨d, e1, e2⟩ := Option.map_eq_some_iff.mp e
  subst e2
  exact x_kz F.sl e1 fun v Hf' H' g r => q v Hf' H' (F.gr.trans g) r
theorem s_retN (h : tS G (fun ρ => some (.rt .none)) D σ H) : tRetN D σ H := by
  obtain ⟨Hfe, He, Hf, ρ, fl, F, e, q⟩ := h
  cases e
  exact q _ Hf H F.gr rp_non
theorem s_next (h : tS G (fun ρ => some (.nx ρ)) D σ H) : tNext D σ H := by
  obtain ⟨Hfe, He, Hf, ρ, fl, F, e, q⟩ := h
  cases e
  exact q σ Hf H F (Mv.refl _ _)
theorem s_brk (h : tS G (fun ρ => some (.bk ρ)) D σ H) : tBreak D σ H := by
  obtain ⟨Hfe, He, Hf, ρ, fl, F, e, q⟩ := h
  cases e
  exact q σ Hf H F (Mv.refl _ _)
theorem s_cont (h : tS G (fun ρ => some (.ct ρ)) D σ H) : tCont D σ H := by
  obtain ⟨Hfe, He, Hf, ρ, fl, F, e, q⟩ := h
  cases e
  exact q σ Hf H F (Mv.refl _ _)
theorem s_never (h : tS G (fun ρ => none) D σ H) : tNever D σ H := by
  obtain ⟨Hfe, He, Hf, ρ, fl, F, e, q⟩ := h
  cases e
theorem s_seq {f g : Rho → Option Fl} (h : tS G (fun ρ => (f ρ).bind fun x => seqF x g) D σ H) : tSeq (tS G f) (tS G g) D σ H := by
  obtain ⟨Hfe, He, Hf, ρ, fl, F, e, q⟩ := h
  obtain ⟨x, e1, e2⟩ := Option.bind_eq_some_iff.mp e
  refine ⟨Hfe, He, Hf, ρ, x, F, e1, ?_⟩
  cases x with
  | nx ρ' => exact fun σ' Hf' H' F' m => ⟨Hfe, He, Hf', ρ', fl, F', e2, q.move m⟩
  | bk ρ' => cases e2; exact q
  | ct ρ' => cases e2; exact q
  | rt d => cases e2; exact q
theorem s_ifS {t : Rho → Option Bool} {f g : Rho → Option Fl} (h : tS G (fun ρ => (t ρ).bind fun r => if r = true then f ρ else g ρ) D σ H) : tIfS (tT G t) (tS G f) (tS G g) D σ H := by
  obtain ⟨Hfe, He, Hf, ρ, fl, F, e, q⟩ := h
  obtain ⟨r, e1, e2⟩ := Option.bind_eq_some_iff.mp e
  refine ⟨Hf, ρ, r, F.sl, e1, fun Hf' H' g => ?_⟩
  cases r with
  | true => rw [if_pos rfl] at e2 ⊢; exact ⟨Hfe, He, Hf', ρ, fl, F.mono g, e2, q.move g.mv⟩
  | false => rw [if_neg Bool.false_ne_true] at e2 ⊢; exact ⟨Hfe, He, Hf', ρ, fl, F.mono g, e2, q.move g.mv⟩
/-- a new thing that is kept apart from all slots -/
theorem new_apart {Hf H : Hp} {σ : L2.St} {ρ : Rho} {p : Addr} (S : Sl G Hf H σ ρ) (h : H p = none) (j : Nat) (e : PyData) (hj : ρ[j]? = some (some (true, e))) : σ[j]? ≠ some (some (.ref p)) := fun z => by
  obtain ⟨q, h1, h2, h3⟩ := S.ow j e hj
  rw [z] at h1
  cases h1
  cases e with
  | list ds => obtain ⟨xs, a, _⟩ := h3; rw [h] at a; cases a
  | dict ds => obtain ⟨xs, a, _⟩ := h3; rw [h] at a; cases a
  | _ => exact h3.elim
theorem s_set {f : Fx} {i : Nat} {e : Option Nat} (hv : ∀ j, e = some j → f = fun ρ => match ρ[j]? with
    | some (some (false, d)) => some (.fz, d)
    | some (some (true, d)) => some (.bw, d)
    | _ => none) (h : tS G (fun ρ => (f ρ).bind fun x => setS i e x ρ) D σ H) : tAsg (tX G f) (gName i) D σ H ∨ ∃ j, e = some j ∧ tAsg (tVar j) (gName i) D σ H := by
  obtain ⟨Hfe, He, Hf, ρ, fl, F, e0, q⟩ := h
  obtain ⟨x, e1, e2⟩ := Option.bind_eq_some_iff.mp e0
  obtain ⟨k, d⟩ := x
  cases k with
  | fz =>
    simp only [setS] at e2
    cases e2
    exact .inl (x_view F.sl e1 fun v Hf' H' g r => q _ Hf' H' ((F.mono g).fzSet r) g.mv)
  | nw =>
    simp only [setS] at e2
    cases e2
    refine .inl (x_view F.sl e1 fun v Hf' H' g r => ?_)
    obtain ⟨p, rfl, h0, hf, ho⟩ := r
    exact q _ Hf' H' ((F.mono g).owSet (F.gr.back F.sb h0) hf ho (new_apart F.sl h0)) g.mv
  | bw =>
    simp only [setS] at e2
    cases e with
    | none => cases e2
    | some j =>
      cases e2
      rw [hv j rfl] at e1
      dsimp only at e1
      split at e1
      · cases e1
      · rename_i d' hd
        cases e1
        obtain ⟨Hf', v, hs, r, F', m⟩ := F.frzI hd
        refine .inr ⟨j, rfl, v, hs, ?_⟩
        have e3 : frzR ρ j = ρ.set j (some (false, d)) := by unfold frzR; rw [hd]
        rw [e3] at q
        exact q _ Hf' H (F'.fzSet r) m
      · cases e1
end
end Bw

namespace Bw
open PySem PySem.Spec PyProof.Rows L2
section
variable {G : Gm} {Hfe He Hf H : Hp} {σ : L2.St} {ρ : Rho}
theorem RpK.mono {k : Kd} {H0 Hf' H' : Hp} {d : PyData} {v : V} (h : RpK G k Hf H0 H d v) (g : Gr Hf H Hf' H') : RpK G k Hf' H0 H' d v := by
  cases k with
  | fz => exact Rp.mono g.fx h
  | nw =>
    obtain ⟨p, e, n, a, b⟩ := h
    obtain ⟨b', a'⟩ := b.mono g a
    exact ⟨p, e, n, a', b'⟩
  | bw =>
    obtain ⟨p, e, a, b⟩ := h
    obtain ⟨b', a'⟩ := b.mono g a
    exact ⟨p, e, a', b'⟩
theorem OwnAt.some {p : Addr} {d : PyData} (h : OwnAt G Hf H p d) : ∃ o, H p = Option.some o := by
  cases d with
  | list ds => obtain ⟨xs, a, _⟩ := h; exact ⟨_, a⟩
  | dict ds => obtain ⟨xs, a, _⟩ := h; exact ⟨_, a⟩
  | _ => exact h.elim
theorem Fr.kSet {i : Nat} {k : Kd} {H0 : Hp} {d : PyData} {v : V} (hk : k ≠ .bw) (F : Fr G Hfe He Hf H σ ρ) (r : RpK G k Hf H0 H d v) (hb : ∀ p, H0 p = none → He p = none)
    (hn : ∀ p, H0 p = none → ∀ (j : Nat) (e : PyData), ρ[j]? = some (some (true, e)) → σ[j]? ≠ some (some (.ref p))) : Fr G Hfe He Hf H (σ.set i (some v)) (ρ.set i (some (k == .nw, d))) := by
  cases k with
  | fz => exact F.fzSet r
  | nw =>
    obtain ⟨p, rfl, h0, hf, ho⟩ := r
    exact F.owSet (hb p h0) hf ho (hn p h0)
  | bw => exact absurd rfl hk
end
section
variable {X : Cx} {G : Gm} {σ : L2.St} {H : Hp} {D : Ends}
theorem s_frz {is : List Nat} {t : TS} {f : Rho → Option Fl} (ht : ∀ D σ H, tS G f D σ H → t D σ H) (h : tS G (fun ρ => (some (.nx (frzL is ρ)) : Option Fl).bind fun x => seqF x f) D σ H) : t D σ H := by
  obtain ⟨Hfe, He, Hf, ρ, fl, F, e, q⟩ := h
  obtain ⟨Hf', F', m⟩ := Fr.frzL is F
  exact ht D σ H ⟨Hfe, He, Hf', _, fl, F', e, q.move m⟩
theorem s_drop {f : Fx} (h : tS G (fun ρ => (f ρ).map fun _ => .nx ρ) D σ H) : tDrop (tX G f) D σ H := by
  obtain ⟨Hfe, He, Hf, ρ, fl, F, e, q⟩ := h
  obtain ⟨x, e1, e2⟩ := Option.map_eq_some_iff.mp e
  subst e2
  exact x_view F.sl e1 fun v Hf' H' g r => q σ Hf' H' (F.mono g) g.mv
theorem s_setT {f : Fx} {t : Tg} (h : tS G (fun ρ => (kz (f ρ)).bind fun d => (bindT t d ρ).map .nx) D σ H) : tAsg (tX G f) (gT G.K t) D σ H := by
  obtain ⟨Hfe, He, Hf, ρ, fl, F, e, q⟩ := h
  obtain ⟨d, e1, e⟩ := Option.bind_eq_some_iff.mp e
  obtain ⟨ρ', e2, e3⟩ := Option.map_eq_some_iff.mp e
  subst e3
  exact x_kz F.sl e1 fun v Hf' H' g r => bindT_ok g.sub t (F.sl.mono g) e2 r fun σ' S' _ l => q σ' Hf' H' ((F.mono g).less S' l) g.mv
theorem s_par {f g' : Fx} {i j : Nat} (h : tS G (fun ρ => (f ρ).bind fun x => (g' ρ).bind fun y => parS i j x y ρ) D σ H) : tPar i j (tCons (tX G f) (tCons (tX G g') tNil)) D σ H := by
  obtain ⟨Hfe, He, Hf, ρ, fl, F, e, q⟩ := h
  obtain ⟨x, e1, e⟩ := Option.bind_eq_some_iff.mp e
  obtain ⟨y, e2, e⟩ := Option.bind_eq_some_iff.mp e
  unfold parS at e
  split at e
  · rename_i c
    cases e
    refine x_view F.sl e1 fun v Hf1 H1 g1 r1 => x_view (F.sl.mono g1) e2 fun w Hf2 H2 g2 r2 => ⟨v, w, rfl, ?_⟩
    have F2 := (F.mono g1).mono g2
    have F3 : Fr G Hfe He Hf2 H2 (σ.set i (some v)) (ρ.set i (some (x.1 == .nw, x.2))) := F2.kSet c.2.1 (r1.mono g2) (fun p hp => F.gr.back F.sb hp) fun p hp => new_apart F.sl hp
    refine q _ Hf2 H2 (F3.kSet c.2.2 r2 (fun p hp => F.gr.back F.sb (g1.back F.sl.sub hp)) fun p hp j' e' hj => ?_) (g1.trans g2).mv
    rcases set_true hj with ⟨rfl, z, hi⟩ | ⟨ne, hj⟩
    · rw [List.getElem?_set_self (by rw [F.sl.len]; exact hi)]
      intro hv
      cases hv
      have hk : x.1 = .nw := by
        have : (x.1 == Kd.nw) = true := by
          injection z with z
          injection z
        simpa using this
      rw [hk] at r1
      obtain ⟨p', ep, _, _, ho⟩ := r1
      cases ep
      obtain ⟨o, hp'⟩ := ho.some
      rw [hp] at hp'
      cases hp'
    · rw [List.getElem?_set_ne ne]
      exact new_apart (F.mono g1).sl hp j' e' hj
  · cases e
theorem s_aug {f : Fx} {i : Nat} {o : BinO} {fn : Int → Int → Int} (ho : augI o = some fn) (h : tS G (fun ρ => (f ρ).bind fun y => augS i o y.2 ρ) D σ H) : tAug i (tX G f) (ipI fn) D σ H := by
  obtain ⟨Hfe, He, Hf, ρ, fl, F, e, q⟩ := h
  obtain ⟨y, e1, e⟩ := Option.bind_eq_some_iff.mp e
  unfold augS at e
  split at e
  · rename_i a ha
    split at e
    · rename_i b hb
      rw [ho, Option.map_some] at e
      cases e
      obtain ⟨v, hv, r⟩ := F.sl.fz i _ ha
      simp only [Rp] at r
      subst r
      refine ⟨_, hv, x_view F.sl e1 fun w Hf1 H1 g1 r1 => ?_⟩
      have vx := r1.vw
      rw [hb] at vx
      obtain rfl := vw_int vx
      exact ⟨a, b, rfl, rfl, q _ Hf1 H1 ((F.mono g1).fzSet rp_int) g1.mv⟩
    · cases e
  · cases e
theorem s_app {f : Fx} {i : Nat} (h : tS G (fun ρ => (kz (f ρ)).bind fun d => appS i d ρ) D σ H) : tDrop (tBM X.K "list" rAppend (tVar i) (tCons (tX G f) tNil)) D σ H := by
  obtain ⟨Hfe, He, Hf, ρ, fl, F, e, q⟩ := h
  obtain ⟨d, e1, e⟩ := Option.bind_eq_some_iff.mp e
  unfold appS at e
  split at e
  · rename_i ds hi
    split at e
    · rename_i c
      cases e
      obtain ⟨p, hs, hf, xs, hp, rl⟩ := F.sl.ow i _ hi
      refine ⟨.ref p, hs, .inl ⟨rfl, xs, sqL_of hp⟩, x_kz F.sl e1 fun v Hf1 H1 g1 r1 => ?_⟩
      obtain ⟨hf1, hp1⟩ := g1.un p _ hp hf
      have ow : OwnAt G Hf1 (upd H1 p (.lst (xs ++ [v]))) p (.list (ds ++ [d])) := ⟨_, upd_same, RpL.append (rl.mono g1.fx) (RpL.cons r1 RpL.nil)⟩
      obtain ⟨F1, m1⟩ := (F.mono g1).mut hi hs hf1 hp1 (fun _ _ z => by cases z) ow
      refine ⟨p, xs, v, rfl, rfl, hp1, ?_, q _ Hf1 _ F1 (g1.mv.trans m1)⟩
      rw [rl.length]
      exact Nat.lt_of_lt_of_le c (by decide)
    · cases e
  · cases e
theorem s_ext {f : Fx} {i : Nat} (h : tS G (fun ρ => (f ρ).bind fun x => extS i x.2 ρ) D σ H) : tDrop (tBM X.K "list" rExtend (tVar i) (tCons (tX G f) tNil)) D σ H := by
  obtain ⟨Hfe, He, Hf, ρ, fl, F, e, q⟩ := h
  obtain ⟨x, e1, e⟩ := Option.bind_eq_some_iff.mp e
  unfold extS at e
  split at e
  · rename_i ds hi
    split at e
    · rename_i es hx
      split at e
      · rename_i c
        cases e
        obtain ⟨p, hs, hf, xs, hp, rl⟩ := F.sl.ow i _ hi
        refine ⟨.ref p, hs, .inl ⟨rfl, xs, sqL_of hp⟩, x_view F.sl e1 fun v Hf1 H1 g1 r1 => ?_⟩
        have vx := r1.vw
        rw [hx] at vx
        obtain ⟨b, zs, rfl, hb, rz⟩ := vw_list g1.sub vx
        obtain ⟨hf1, hp1⟩ := g1.un p _ hp hf
        have ow : OwnAt G Hf1 (upd H1 p (.lst (xs ++ zs))) p (.list (ds ++ es)) := ⟨_, upd_same, RpL.append (rl.mono g1.fx) rz⟩
        obtain ⟨F1, m1⟩ := (F.mono g1).mut hi hs hf1 hp1 (fun _ _ z => by cases z) ow
        refine ⟨p, b, xs, zs, rfl, rfl, hp1, hb, ?_, q _ Hf1 _ F1 (g1.mv.trans m1)⟩
        rw [rl.length, rz.length]
        exact Nat.le_trans c (by decide)
      · cases e
    · cases e
  · cases e
def rPut : TSet := fun o i v H Q => rSetD o i v H Q ∨ rSetL o i v H Q
theorem set_put (hu : X.A.units + 1 < cLine) : PSet X rPut := by
  intro pins s σ H o i v ov iv u Q I r1 r2 r3 h
  rcases h with h | h
  · exact set_dict hu pins s σ H o i v ov iv u Q I r1 r2 r3 h
  · exact set_list pins s σ H o i v ov iv u Q I r1 r2 r3 h
theorem s_put {f g' : Fx} {i : Nat} (h : tS G (fun ρ => (kz (f ρ)).bind fun d => (g' ρ).bind fun kk => putS i kk.2 d ρ) D σ H) : tAsg (tX G f) (gSub (tVar i) (tX G g') rPut) D σ H := by
  obtain ⟨Hfe, He, Hf, ρ, fl, F, e, q⟩ := h
  obtain ⟨d, e1, e⟩ := Option.bind_eq_some_iff.mp e
  obtain ⟨x, e2, e⟩ := Option.bind_eq_some_iff.mp e
  unfold putS at e
  split at e
  · rename_i kvs hi
    split at e
    · rename_i c
      cases e
      refine x_kz F.sl e1 fun v Hf1 H1 g1 r1 => ?_
      have F1 := F.mono g1
      obtain ⟨p, hs, hf, ks, hp, rl⟩ := F1.sl.ow i _ hi
      refine ⟨.ref p, hs, x_view F1.sl e2 fun w Hf2 H2 g2 r2 => ?_⟩
      obtain ⟨kk, _, hk, rfl⟩ := key_rp c.1 r2.vw
      obtain ⟨hf2, hp2⟩ := g2.un p _ hp hf
      have ow : OwnAt G Hf2 (upd H2 p (.dK (putK ks kk v))) p (.dict (putD kvs x.2 d)) := ⟨_, upd_same, by rw [← hk]; exact rpD_put kk (r1.mono g2.fx) (rl.mono g2.fx)⟩
      obtain ⟨F2, m2⟩ := (F1.mono g2).mut hi hs hf2 hp2 (fun _ _ z => by cases z) ow
      refine .inl ⟨p, _, rfl, DPut.k hp2 ?_, q _ Hf2 _ F2 ((g1.trans g2).mv.trans m2)⟩
      rw [rpD_length rl]
      exact Nat.lt_of_lt_of_le c.2 (by decide)
    · cases e
  · rename_i ds hi
    split at e
    · rename_i j hx
      obtain ⟨n, e3, e4⟩ := Option.map_eq_some_iff.mp e
      subst e4
      refine x_kz F.sl e1 fun v Hf1 H1 g1 r1 => ?_
      have F1 := F.mono g1
      obtain ⟨p, hs, hf, xs, hp, rl⟩ := F1.sl.ow i _ hi
      refine ⟨.ref p, hs, x_view F1.sl e2 fun w Hf2 H2 g2 r2 => ?_⟩
      have vx := r2.vw
      rw [hx] at vx
      obtain rfl := vw_int vx
      obtain ⟨hf2, hp2⟩ := g2.un p _ hp hf
      have ow : OwnAt G Hf2 (upd H2 p (.lst (xs.set n v))) p (.list (ds.set n d)) := ⟨_, upd_same, RpL.set (r1.mono g2.fx) n (rl.mono g2.fx)⟩
      obtain ⟨F2, m2⟩ := (F1.mono g2).mut hi hs hf2 hp2 (fun _ _ z => by cases z) ow
      exact .inr ⟨p, xs, j, n, rfl, rfl, hp2, by rw [rl.length]; exact e3, q _ Hf2 _ F2 ((g1.trans g2).mv.trans m2)⟩
    · cases e
  · cases e
theorem s_for {fi : Rho → Option (Bool × List PyData)} {t : Tg} {fb : Rho → Option Fl} (h : tS G (fun ρ => (fi ρ).bind fun r => if r.1 = false then forF (bindT t) fb r.2 ρ else none) D σ H) : tFor (tI G fi) (gT G.K t) (tS G fb) D σ H := by
  obtain ⟨Hfe, He, Hf, ρ, fl, F, e, q⟩ := h
  obtain ⟨⟨b, ds⟩, e1, e⟩ := Option.bind_eq_some_iff.mp e
  dsimp only at e
  split at e
  · rename_i c
    subst c
    refine ⟨Hf, ρ, false, ds, F.sl, e1, fun J Hf1 H1 g1 wk => ?_⟩
    obtain ⟨as, has, _, wk⟩ := wk
    obtain rfl := has rfl
    have q1 := q.move g1.mv
    refine ⟨fun i m σ' H' => ∃ Hf' ρ', m = ds.length - i ∧ i ≤ ds.length ∧ Fr G Hfe He Hf' H' σ' ρ' ∧ Mv Hf1 H1 Hf' H' ∧ forF (bindT t) fb (ds.drop i) ρ' = some fl, ⟨ds.length, Hf1, ρ, by simp, Nat.zero_le _, F.mono g1, Mv.refl _ _, by simpa using e⟩, ?_⟩
    rintro i m σ' H' ⟨Hf', ρ', rfl, hi, F', mv, ef⟩
    obtain ⟨w1, w2, w3⟩ := wk Hf' H' mv.1 F'.sl.sub mv.2 (fun a ha => by cases ha)
    by_cases hz : i = ds.length
    · refine .inl ⟨w2 i (by omega), ?_⟩
      subst hz
      rw [List.drop_length, forF] at ef
      cases ef
      exact q1 σ' Hf' H' F' mv
    · have hi' : i < ds.length := by omega
      refine .inr ⟨w1 i hi', fun σ2 H2 => ∃ Hf2 ρ2, i + 1 ≤ ds.length ∧ Fr G Hfe He Hf2 H2 σ2 ρ2 ∧ Mv Hf1 H1 Hf2 H2 ∧ forF (bindT t) fb (ds.drop (i + 1)) ρ2 = some fl,
        fun σ2 H2 ⟨Hf2, ρ2, h1, h2, h3, h4⟩ => ⟨ds.length - (i + 1), by omega, Hf2, ρ2, rfl, h1, h2, h3, h4⟩, fun x H2 y => ?_⟩
      obtain ⟨Hf2, d, hd, g2, rx⟩ := w3 i x H2 hi' y
      have hdrop : ds.drop i = d :: ds.drop (i + 1) := by
        rw [List.drop_eq_getElem_cons hi']
        rw [List.getElem?_eq_getElem hi'] at hd
        cases hd; rfl
      rw [hdrop, forF] at ef
      obtain ⟨ρ1, ef1, ef⟩ := Option.bind_eq_some_iff.mp ef
      obtain ⟨fl1, ef2, ef⟩ := Option.bind_eq_some_iff.mp ef
      refine bindT_ok g2.sub t (F'.sl.mono g2) ef1 rx fun σ3 S3 _ l3 => ⟨Hfe, He, Hf2, ρ1, fl1, (F'.mono g2).less S3 l3, ef2, ?_⟩
      have mv2 := mv.trans g2.mv
      cases fl1 with
      | nx ρ4 => exact fun σ4 Hf4 H4 F4 m4 => ⟨Hf4, ρ4, hi', F4, mv2.trans m4, ef⟩
      | ct ρ4 => exact fun σ4 Hf4 H4 F4 m4 => ⟨Hf4, ρ4, hi', F4, mv2.trans m4, ef⟩
      | bk ρ4 =>
        cases ef
        exact fun σ4 Hf4 H4 F4 m4 => q1 σ4 Hf4 H4 F4 (mv2.trans m4)
      | rt d =>
        cases ef
        exact q1
  · cases e
theorem s_while {tc : Rho → Option Bool} {fb : Rho → Option Fl} {n : Nat} (h : tS G (loopF tc fb n) D σ H) : tWhile (tT G tc) (tS G fb) D σ H := by
  obtain ⟨Hfe, He, Hf, ρ, fl, F, e, q⟩ := h
  refine ⟨fun m σ' H' => ∃ Hf' ρ', Fr G Hfe He Hf' H' σ' ρ' ∧ Mv Hf H Hf' H' ∧ loopF tc fb m ρ' = some fl, ⟨n, Hf, ρ, F, Mv.refl _ _, e⟩, ?_⟩
  rintro m σ' H' ⟨Hf', ρ', F', mv, ef⟩
  cases m with
  | zero => cases ef
  | succ m =>
    rw [loopF] at ef
    obtain ⟨r, ef1, ef⟩ := Option.bind_eq_some_iff.mp ef
    refine ⟨Hf', ρ', r, F'.sl, ef1, fun Hf1 H1 g1 => ?_⟩
    have mv1 := mv.trans g1.mv
    cases r with
    | true =>
      rw [if_pos rfl] at ef
      dsimp only
      rw [if_pos rfl]
      obtain ⟨fl1, ef2, ef⟩ := Option.bind_eq_some_iff.mp ef
      refine ⟨fun σ2 H2 => ∃ Hf2 ρ2, Fr G Hfe He Hf2 H2 σ2 ρ2 ∧ Mv Hf H Hf2 H2 ∧ loopF tc fb m ρ2 = some fl, fun σ2 H2 ⟨Hf2, ρ2, h⟩ => ⟨m, Nat.lt_succ_self _, Hf2, ρ2, h⟩, ?_⟩
      refine ⟨Hfe, He, Hf1, ρ', fl1, F'.mono g1, ef2, ?_⟩
      cases fl1 with
      | nx ρ4 => exact fun σ4 Hf4 H4 F4 m4 => ⟨Hf4, ρ4, F4, mv1.trans m4, ef⟩
      | ct ρ4 => exact fun σ4 Hf4 H4 F4 m4 => ⟨Hf4, ρ4, F4, mv1.trans m4, ef⟩
      | bk ρ4 =>
        cases ef
        exact fun σ4 Hf4 H4 F4 m4 => q σ4 Hf4 H4 F4 (mv1.trans m4)
      | rt d =>
        cases ef
        exact q
    | false =>
      rw [if_neg Bool.false_ne_true] at ef
      dsimp only
      rw [if_neg Bool.false_ne_true]
      cases ef
      exact q σ' Hf1 H1 (F'.mono g1) mv1
end
end Bw

namespace Bw
open PySem PySem.Spec PyProof.Rows L2
/-! the text and its deep form -/
structure Inf where
  fns : List (Str × Nat)
  gls : List (Str × PyData)
  frees : List Str
def isFree (I : Inf) (x : Str) : Bool := I.frees.any fun y => decide (y = x)
def visB (sc : Scope) (x : Str) : Bool := sc.names.lookup x == some .local || sc.names.lookup x == some .cell || sc.names.lookup x == some .free
def flB (fl : Option Scope) (x : Str) : Bool := match fl with
  | none => true
  | some s => s.names.lookup x == some .cell
def locB (sc : Scope) (fl : Option Scope) (x : Str) : Bool := sc.names.lookup x == some .local || (sc.names.lookup x == some .cell && flB fl x)
def glB (sc : Scope) (x : Str) : Bool := sc.names.lookup x == some .globalImplicit
def nmB (x : Str) : Bool := !(x == ("__debug__" : Str)) && !(x == ("__classdict__" : Str)) && !decide (x = ("__name__" : Str))
def noStar : Expr → Bool
  | .Starred _ _ => false
  | _ => true
def noSet : Expr → Bool
  | .Set _ _ _ => false
  | _ => true
def noSlice : Expr → Bool
  | .Slice _ _ _ _ => false
  | _ => true
def noBase : Expr → Bool
  | .Call (.Name _ _) [] [] _ => false
  | _ => true
/-- a built-in, called -/
def bltB (I : Inf) (sc : Scope) (x n : Str) : Bool := decide (x = n) && glB sc x && isFree I x
def biN : Bi → Str
  | .len => "len" | .abs => "abs" | .int => "int" | .sum => "sum" | .min => "min" | .max => "max" | .any => "any" | .all => "all" | .sorted => "sorted" | .list => "list" | .tuple => "tuple"
def lenEs : Es → Nat
  | .nil => 0
  | .cons _ r => lenEs r + 1
def isNo : E → Bool
  | .no => true
  | _ => false
def optB (no : Bool) (f : Expr → Bool) : Option Expr → Bool
  | none => no
  | some y => !no && f y
def ifsB (no : Bool) (f : Expr → Bool) : List Expr → Bool
  | [] => no
  | [y] => !no && f y
  | _ => false
/-! what can stand as a test -/
mutual
def tOk : E → Bool
  | .ite _ _ _ => false
  | .not_ a => tOk a
  | .and_ es => tOks es
  | .or_ es => tOks es
  | _ => true
def tOks : Es → Bool
  | .nil => true
  | .cons e es => tOk e && tOks es
end
mutual
def chkTg (N : List Str) (sc : Scope) (fl : Option Scope) : Tg → Expr → Bool
  | .nm i, x => match x with
    | .Name y _ => decide (N[i]? = some y) && locB sc fl y
    | _ => false
  | .tp n ts, x => match x with
    | .Tuple es _ _ => decide (es.length = n) && chkTgs N sc fl ts es
    | _ => false
  | _, _ => false
def chkTgs (N : List Str) (sc : Scope) (fl : Option Scope) : Tg → List Expr → Bool
  | .nil, es => match es with
    | [] => true
    | _ => false
  | .cons a b, es => match es with
    | e :: r => noStar e && chkTg N sc fl a e && chkTgs N sc fl b r
    | _ => false
  | _, _ => false
end
def blkB (N : List Str) (sc scope : Scope) (own : List (Str × Nat)) : Bool :=
  (scope.kind == .function) && scope.names.all (fun y => scope.names.lookup y.1 == some y.2) && own.all (fun p => decide (N[p.2]? = some p.1)) &&
    scope.names.all (fun y => !(y.2 == .free) || sc.names.lookup y.1 == some .cell || sc.names.lookup y.1 == some .free) &&
    scope.names.all (fun y => !(y.2 == .local || y.2 == .cell) || (own.map (·.1)).any (fun z => decide (z = y.1)) || !N.any (fun z => decide (z = y.1)))
section
variable (I : Inf) (N : List Str)
mutual
def chk : E → Scope → Option Scope → Expr → Bool
  | .non, _, _, x => match x with
    | .Constant .none _ _ => true
    | _ => false
  | .bl b, _, _, x => match x with
    | .Constant (.bool b') _ _ => b == b'
    | _ => false
  | .int i, _, _, x => match x with
    | .Constant (.int j) _ _ => decide (i = j)
    | _ => false
  | .str z, _, _, x => match x with
    | .Constant (.str y) _ _ => decide (z = y)
    | _ => false
  | .var i, sc, _, x => match x with
    | .Name y _ => decide (N[i]? = some y) && visB sc y && nmB y
    | _ => false
  | .glob z, sc, _, x => match x with
    | .Name y _ => decide (z = y) && glB sc y && nmB y && (I.gls.lookup y).isSome
    | _ => false
  | .bin o a b, sc, fl, x => match x with
    | .BinOp a' op b' _ => decide (op = opOf o) && chk a sc fl a' && chk b sc fl b'
    | _ => false
  | .neg a, sc, fl, x => match x with
    | .UnaryOp .USub a' _ => chk a sc fl a'
    | _ => false
  | .cmp o a b, sc, fl, x => match x with
    | .Compare a' [op] [b'] _ => decide (op = cmpOf o) && !behindInMarks op b' && chk a sc fl a' && chk b sc fl b'
    | _ => false
  | .isN a, sc, fl, x => match x with
    | .Compare a' [.Is] [.Constant .none _ _] _ => chk a sc fl a'
    | _ => false
  | .notN a, sc, fl, x => match x with
    | .Compare a' [.IsNot] [.Constant .none _ _] _ => chk a sc fl a'
    | _ => false
  | .chain o o' a b c, sc, fl, x => match x with
    | .Compare a' [op, op'] [b', c'] _ => decide (op = cmpOf o) && decide (op' = cmpOf o') && !lastMarks [op, op'] [b', c'] && chk a sc fl a' && chk b sc fl b' && chk c sc fl c'
    | _ => false
  | .and_ es, sc, fl, x => match x with
    | .BoolOp .And xs _ => !xs.isEmpty && chkL es sc fl xs
    | _ => false
  | .or_ es, sc, fl, x => match x with
    | .BoolOp .Or xs _ => !xs.isEmpty && chkL es sc fl xs
    | _ => false
  | .not_ a, sc, fl, x => match x with
    | .UnaryOp .Not a' _ => chk a sc fl a'
    | _ => false
  | .ite c a b, sc, fl, x => match x with
    | .IfExp c' a' b' _ => tOk c && chk c sc fl c' && chk a sc fl a' && chk b sc fl b'
    | _ => false
  | .tup es, sc, fl, x => match x with
    | .Tuple xs _ _ => chkL es sc fl xs
    | _ => false
  | .lst es, sc, fl, x => match x with
    | .List xs _ => chkL es sc fl xs
    | _ => false
  | .idx a b, sc, fl, x => match x with
    | .Subscript a' b' _ => noSlice b' && chk a sc fl a' && chk b sc fl b'
    | _ => false
  | .sl a lo hi, sc, fl, x => match x with
    | .Subscript a' (.Slice l h none _) _ => chk a sc fl a' && optB (isNo lo) (chk lo sc fl) l && optB (isNo hi) (chk hi sc fl) h
    | _ => false
  | .sset a, sc, fl, x => match x with
    | .Call (.Name y _) [.Call (.Name z _) [a'] [] _] [] _ => bltB I sc y "sorted" && bltB I sc z "set" && noStar a' && chk a sc fl a'
    | _ => false
  | .rng t a b, sc, fl, x => match x with
    | .Call (.Name y _) [.Call (.Name z _) [b'] [] _] [] _ => isNo a && bltB I sc y (if t = true then "tuple" else "list") && bltB I sc z "range" && noStar b' && chk b sc fl b'
    | .Call (.Name y _) [.Call (.Name z _) [a', b'] [] _] [] _ => !isNo a && bltB I sc y (if t = true then "tuple" else "list") && bltB I sc z "range" && noStar a' && noStar b' && chk a sc fl a' && chk b sc fl b'
    | _ => false
  | .call f es, sc, fl, x => match x with
    | .Call (.Name y _) xs [] _ => decide (f = y) && glB sc y && nmB y && decide (I.fns.lookup y = some (lenEs es)) && chkL es sc fl xs
    | _ => false
  | .blt f es, sc, fl, x => match x with
    | .Call (.Name y _) xs [] _ => bltB I sc y (biN f) && !xs.isEmpty && chkL es sc fl xs
    | _ => false
  | .isi a ty, sc, fl, x => match x with
    | .Call (.Name y _) [a', .Name z _] [] _ => bltB I sc y "isinstance" && noStar a' && bltB I sc z (Str.ofString ty) && (ty == "int" || ty == "bool" || ty == "tuple" || ty == "str") && chk a sc fl a'
    | _ => false
  | .dis es, sc, fl, x => match x with
    | .Dict ks vs _ => decide (ks.length ≤ 15) && chkKV es sc fl ks vs
    | _ => false
  | .dget d k x, sc, fl, y => match y with
    | .Call (.Attribute d' m ap) [k', x'] [] cp => decide (m = ("get" : Str)) && noBase d' && (ap.endLine == cp.line) && noStar k' && noStar x' && chk d sc fl d' && chk k sc fl k' && chk x sc fl x'
    | _ => false
  | .comp elt tg it cond own, sc, fl, x => match x with
    | .ListComp elt' [⟨tg', it', ifs, 0⟩] scope _ => noSet it' && blkB N sc scope own && (plT tg).all (fun i => (own.map (·.2)).any fun j => decide (j = i)) && chkI it sc fl tg' it' && chkTg N (relS scope sc) (some scope) tg tg' &&
        tOk cond && ifsB (isNo cond) (chk cond (relS scope sc) (some scope)) ifs && chk elt (relS scope sc) (some scope) elt'
    | _ => false
  | _, _, _, _ => false
def chkL : Es → Scope → Option Scope → List Expr → Bool
  | .nil, _, _, xs => match xs with
    | [] => true
    | _ => false
  | .cons e es, sc, fl, xs => match xs with
    | x :: r => noStar x && chk e sc fl x && chkL es sc fl r
    | _ => false
def chkKV : Es → Scope → Option Scope → List (Option Expr) → List Expr → Bool
  | .nil, _, _, ks, vs => match ks, vs with
    | [], [] => true
    | _, _ => false
  | .cons k (.cons v r), sc, fl, ks, vs => match ks, vs with
    | some k' :: ks', v' :: vs' => chk k sc fl k' && chk v sc fl v' && chkKV r sc fl ks' vs'
    | _, _ => false
  | .cons _ .nil, _, _, _, _ => false
def chkI : Wi → Scope → Option Scope → Expr → Expr → Bool
  | .over e, sc, fl, _, x => chk e sc fl x
  | .range1 a, sc, fl, _, x => match x with
    | .Call (.Name y _) [a'] [] _ => bltB I sc y "range" && noStar a' && chk a sc fl a'
    | _ => false
  | .range2 a b, sc, fl, _, x => match x with
    | .Call (.Name y _) [a', b'] [] _ => bltB I sc y "range" && noStar a' && noStar b' && chk a sc fl a' && chk b sc fl b'
    | _ => false
  | .enum a, sc, fl, tg, x => match tg, x with
    | .Tuple _ _ _, .Call (.Name y _) [a'] [] _ => bltB I sc y "enumerate" && noStar a' && chk a sc fl a'
    | _, _ => false
  | .zip2 a b, sc, fl, tg, x => match tg, x with
    | .Tuple _ _ _, .Call (.Name y _) [a', b'] [] _ => bltB I sc y "zip" && noStar a' && noStar b' && chk a sc fl a' && chk b sc fl b'
    | _, _ => false
  | .zip3 _ _ _, _, _, _, _ => false
end
end
end Bw

namespace Bw
open PySem PySem.Spec PyProof.Rows L2
/-! what the text asks, from the checks -/
theorem star1 {x : Expr} (h : noStar x = true) (xs : List Expr) (env : Env) : starEach (x :: xs) env = (false, eval x env) :: starEach xs env := by
  cases x <;> first | rfl | cases h
theorem asg1 {x : Expr} (h : noStar x = true) (xs : List Expr) (env : Env) : assignEach (x :: xs) env = (false, assign x env) :: assignEach xs env := by
  cases x <;> first | rfl | cases h
theorem fold1 {x : Expr} (h : noSet x = true) (env : Env) (v : Value) : foldedSetIterable x env v = pure v := by
  cases x <;> first | rfl | cases h
theorem slice1 {x : Expr} (h : noSlice x = true) (o i : Value) : subscripted x false o i = operate [o, i] (getItem o i) := by
  cases x <;> first | rfl | cases h
theorem base1 {o : Expr} (h : noBase o = true) (m : Str) (env : Env) (w : Sem Value) : attributeBase o m env w = w := by
  unfold attributeBase
  split
  · simp [noBase] at h
  · rfl
def starsB : List Expr → Bool
  | [] => true
  | x :: r => noStar x && starsB r
theorem stars_any {pos : Pos} {env : Env} : ∀ {xs : List Expr}, starsB xs = true → (backTo pos (starEach xs env)).any (·.1) = false
  | [], _ => rfl
  | x :: r, h => by
    rw [starsB, Bool.and_eq_true] at h
    rw [star1 h.1]
    have ih := stars_any (pos := pos) (env := env) h.2
    unfold backTo at ih ⊢
    rw [List.map_cons, List.any_cons, ih]; rfl
theorem stars_find {env : Env} : ∀ {xs : List Expr}, starsB xs = true → (assignEach xs env).length = xs.length ∧ (assignEach xs env).findIdx? (·.1) = none
  | [], _ => ⟨rfl, rfl⟩
  | x :: r, h => by
    rw [starsB, Bool.and_eq_true] at h
    rw [asg1 h.1]
    obtain ⟨h1, h2⟩ := stars_find (env := env) h.2
    refine ⟨by rw [List.length_cons, List.length_cons, h1], ?_⟩
    rw [List.findIdx?_cons, h2]; rfl
theorem boot_bi : ∀ f : Bi, bootBuiltins (biN f) = some (biV f) := by
  intro f
  cases f <;> first | rfl | kernel_rfl | decide +kernel
theorem biN_ne : ∀ f : Bi, biN f ≠ ("__name__" : Str) ∧ (biN f == ("__debug__" : Str)) = false := by
  intro f
  cases f <;> exact ⟨by decide +kernel, by decide +kernel⟩
structure XOk (G : Gm) (I : Inf) (c : Str → List PyData → Option PyData) (X : Cx) (N : List Str) (sc : Scope) (fl : Option Scope) : Prop where
  K : G.K = X.K
  calm : X.calm = true
  nm : X.N = N
  nd : N.Nodup
  un : X.A.units + 66 < cLine
  sc : X.env.scope = sc
  fn : ∀ x, flB fl x = true → X.fn x = true
  fr : ∀ x, isFree I x = true → X.mg x = none
  gl : ∀ x d, I.gls.lookup x = some d → ∃ v u, X.mg x = some u ∧ RelV v u ∧ ∀ Hf, Rp G Hf d v
  fu : ∀ f n, I.fns.lookup f = some n → ∃ kk a fd ps, FnOk X.prog X.w X.K X.mg X.base L2.CX0 kk a fd ps (spD G n (c f)) ∧ Room kk X.A ∧ X.mg f = some (.ref a) ∧ PySem.W.keepIn X.K (.ref a) = true ∧ Binds X.K fd ps []
section
variable {G : Gm} {I : Inf} {c : Str → List PyData → Option PyData} {X : Cx} {N : List Str} {sc : Scope} {fl : Option Scope}
theorem XOk.vis (h : XOk G I c X N sc fl) {x : Str} (v : visB sc x = true) : Vis X.env.scope x := by
  unfold visB at v
  rw [h.sc]
  simp only [Bool.or_eq_true, beq_iff_eq] at v
  rcases v with (v | v) | v
  · exact .inl v
  · exact .inr (.inl v)
  · exact .inr (.inr v)
theorem XOk.loc (h : XOk G I c X N sc fl) {x : Str} (v : locB sc fl x = true) : Loc X.env.scope x ∧ (X.fn x = true ∨ X.env.scope.names.lookup x = some .local) := by
  unfold locB at v
  rw [h.sc]
  simp only [Bool.or_eq_true, Bool.and_eq_true, beq_iff_eq] at v
  rcases v with v | v
  · exact ⟨.inl v, .inr v⟩
  · exact ⟨.inr v.1, .inl (h.fn x v.2)⟩
theorem XOk.glo (h : XOk G I c X N sc fl) {x : Str} (v : glB sc x = true) : Gl X x := by
  unfold glB at v
  unfold Gl Env.kindOf
  rw [h.sc]
  simpa using v
theorem XOk.blt (h : XOk G I c X N sc fl) {x n : Str} (v : bltB I sc x n = true) : x = n ∧ Gl X n ∧ X.mg n = none := by
  unfold bltB at v
  simp only [Bool.and_eq_true, decide_eq_true_eq] at v
  obtain ⟨⟨e, g⟩, f⟩ := v
  subst e
  exact ⟨rfl, h.glo g, h.fr x f⟩
theorem XOk.blk (h : XOk G I c X N sc fl) {scope : Scope} (s : Shared) (H : Hp) (C : Addr) (cl : List (Str × Addr)) (fp : List Addr) : XOk G I c (X.blk s H scope (compEnvC scope cl C X.env) fp) N (relS scope sc) (some scope) where
  K := h.K
  calm := h.calm
  nm := h.nm
  nd := h.nd
  un := h.un
  sc := by
    show relabel scope X.env = relS scope sc
    unfold relS relabel
    rw [← h.sc]; rfl
  fn := fun x hx => hx
  fr := h.fr
  gl := h.gl
  fu := h.fu
theorem nm_dbg {x : Str} (h : nmB x = true) : (x == ("__debug__" : Str)) = false ∧ (x == ("__classdict__" : Str)) = false ∧ x ≠ ("__name__" : Str) := by
  unfold nmB at h
  simp only [Bool.and_eq_true, Bool.not_eq_true', decide_eq_false_iff_not] at h
  exact ⟨h.1.1, h.1.2, h.2⟩
theorem blk_ok (h : XOk G I c X N sc fl) {scope : Scope} {own : List (Str × Nat)} (b : blkB N sc scope own = true) : BlkOk X.N X.env.scope scope own := by
  unfold blkB at b
  simp only [Bool.and_eq_true] at b
  obtain ⟨⟨⟨⟨b1, b2⟩, b3⟩, b4⟩, b5⟩ := b
  rw [h.nm, h.sc]
  refine ⟨by simpa using b1, fun y hy => by simpa using List.all_eq_true.mp b2 y hy, fun p hp => of_decide_eq_true (List.all_eq_true.mp b3 p hp), fun y hy e => ?_, fun y hy e => ?_⟩
  · have := List.all_eq_true.mp b4 y hy
    simp only [Bool.or_eq_true, beq_iff_eq, Bool.not_eq_true', beq_eq_false_iff_ne] at this
    rcases this with (z | z) | z
    · exact absurd e z
    · exact .inl z
    · exact .inr z
  · have := List.all_eq_true.mp b5 y hy
    simp only [Bool.or_eq_true, Bool.not_eq_true', Bool.or_eq_false_iff, beq_eq_false_iff_ne] at this
    rcases this with (z | z) | z
    · rcases e with e | e
      · exact absurd e z.1
      · exact absurd e z.2
    · rw [List.any_eq_true] at z
      obtain ⟨w, h1, h2⟩ := z
      rw [← of_decide_eq_true h2]
      exact .inl h1
    · refine .inr fun hm => ?_
      rw [List.any_eq_false] at z
      exact z _ hm (by simp)
mutual
theorem chkTg_ok (h : XOk G I c X N sc fl) : ∀ (t : Tg) {x : Expr}, chkTg N sc fl t x = true → PG X x (gT X.K t)
  | .nm i, x, e => by
    unfold chkTg at e
    split at e
    · simp only [Bool.and_eq_true, decide_eq_true_eq] at e
      obtain ⟨l1, l2⟩ := h.loc e.2
      rw [gT]
      exact pg_name (by rw [h.nm]; exact h.nd) (by rw [h.nm]; exact e.1) l1 l2
    · cases e
  | .tp n ts, x, e => by
    unfold chkTg at e
    split at e
    · simp only [Bool.and_eq_true, decide_eq_true_eq] at e
      obtain ⟨p, st⟩ := chkTgs_ok h ts e.2
      obtain ⟨s1, s2⟩ := stars_find (env := X.env) st
      rw [gT]
      exact pg_tup h.calm p (by rw [s1, e.1]) s2
    · cases e
  | .nil, x, e => by simp [chkTg] at e
  | .cons a b, x, e => by simp [chkTg] at e
theorem chkTgs_ok (h : XOk G I c X N sc fl) : ∀ (t : Tg) {xs : List Expr}, chkTgs N sc fl t xs = true → PGs X xs (gTs X.K t) ∧ starsB xs = true
  | .nil, xs, e => by
    unfold chkTgs at e
    split at e
    · rw [gTs]; exact ⟨pgs_nil, rfl⟩
    · cases e
  | .cons a b, xs, e => by
    unfold chkTgs at e
    split at e
    · simp only [Bool.and_eq_true] at e
      obtain ⟨p, st⟩ := chkTgs_ok h b e.2
      rw [gTs]
      exact ⟨pgs_cons (chkTg_ok h a e.1.2) p (by rw [asg1 e.1.1]; rfl), by rw [starsB, e.1.1, st]; rfl⟩
    · cases e
  | .nm i, xs, e => by simp [chkTgs] at e
  | .tp n ts, xs, e => by simp [chkTgs] at e
end
end
end Bw

namespace Bw
open PySem PySem.Spec PyProof.Rows L2
section
variable {G : Gm} {σ : L2.St} {H : Hp}
theorem tX_of {f g : Fx} {Q : VK} (e : ∀ ρ, f ρ = g ρ) (h : tX G f σ H Q) : tX G g σ H Q := by
  have : f = g := funext e
  rw [← this]; exact h
theorem tT_of {f g : Rho → Option Bool} {Q : Bool → Hp → Prop} (e : ∀ ρ, f ρ = g ρ) (h : tT G f σ H Q) : tT G g σ H Q := by
  have : f = g := funext e
  rw [← this]; exact h
theorem tI_of {f g : Rho → Option (Bool × List PyData)} {Q : L2.It → Hp → Prop} (e : ∀ ρ, f ρ = g ρ) (h : tI G f σ H Q) : tI G g σ H Q := by
  have : f = g := funext e
  rw [← this]; exact h
theorem tFs_of {f g : Rho → Option (List PyData)} {Q : List V → Hp → Prop} (e : ∀ ρ, f ρ = g ρ) (h : tFs G f σ H Q) : tFs G g σ H Q := by
  have : f = g := funext e
  rw [← this]; exact h
theorem tXs_of {f g : Rho → Option (List PyData)} {Q : List V → Hp → Prop} (e : ∀ ρ, f ρ = g ρ) (h : tXs G f σ H Q) : tXs G g σ H Q := by
  have : f = g := funext e
  rw [← this]; exact h
theorem tP_of {f g : Rho → Option (Option Int)} {Q : Option Int → Hp → Prop} (e : ∀ ρ, f ρ = g ρ) (h : tP G f σ H Q) : tP G g σ H Q := by
  have : f = g := funext e
  rw [← this]; exact h
theorem tKV_of {f g : Rho → Option (List (PyData × PyData))} {Q : List (V × V) → Hp → Prop} (e : ∀ ρ, f ρ = g ρ) (h : tKV G f σ H Q) : tKV G g σ H Q := by
  have : f = g := funext e
  rw [← this]; exact h
theorem PO.weak {X : Cx} {e : Option Expr} {t t' : TO} (h : PO X e t) (w : ∀ σ H Q, t' σ H Q → t σ H Q) : PO X e t' := ⟨fun pins s σ H Q I q => h.run pins s σ H Q I (w σ H Q q)⟩
theorem PW.weak {X : Cx} {e : Expr} {t t' : TT} (h : PW X e t) (w : ∀ σ H Q, t' σ H Q → t σ H Q) : PW X e t' := ⟨fun wh pins s σ H Q I q => h.run wh pins s σ H Q I (w σ H Q q)⟩
theorem x_bz {f : Fx} {Q : VK} (h : tX G (fun ρ => (bz (f ρ)).map fun b => (.fz, .bool b)) σ H Q) : tX G f σ H Q := by
  obtain ⟨Hf, ρ, k, d, S, e, q⟩ := h
  obtain ⟨b, e1, e2⟩ := Option.map_eq_some_iff.mp e
  cases e2
  exact x_bool S e1 fun Hf' H' g => q _ Hf' H' g (rk rp_bl)
theorem t_test {f : Fx} {tr : TE} {Qb : Bool → Hp → Prop} (w : ∀ σ H Q, tX G f σ H Q → tr σ H Q) (h : tT G (fun ρ => bz (f ρ)) σ H Qb) : tTest tr σ H Qb := by
  obtain ⟨Hf, ρ, b, S, e, q⟩ := h
  exact w _ _ _ (x_bool S e fun Hf2 H2 g => ⟨b, rfl, q Hf2 H2 g⟩)
theorem tFs_nil {f : Rho → Option (List PyData)} {sp : Sp} {dvs : List V} {E : XK} {Q : VK} (h : tCall sp dvs E (tFs G f) σ H Q) (hf : ∀ ρ, f ρ = some []) : tCall sp dvs E tNil σ H Q := by
  obtain ⟨Hf, ρ, ds, S, e, q⟩ := h
  rw [hf] at e
  cases e
  exact q [] Hf H (Gr.refl S.sub) RpL.nil
/-- what an expression says as a test, of its value -/
theorem t_val {f : Fx} {Qb : Bool → Hp → Prop} (h : tT G (fun ρ => bz (f ρ)) σ H Qb) : tB (tX G f) σ H Qb := by
  obtain ⟨Hf, ρ, b, S, e, q⟩ := h
  exact x_bool S e fun Hf' H' g => ⟨b, rfl, q Hf' H' g⟩
end
def plainT : Expr → Bool
  | .UnaryOp .Not _ _ => false
  | .BoolOp _ _ _ => false
  | .IfExp _ _ _ _ => false
  | .Compare _ _ _ _ => false
  | _ => true
theorem isT1 {e : Expr} (h : plainT e = true) (env : Env) (whole : Sem Value) : isTrue e env whole = (do let v ← whole; standAt e.pos; holding [v] (truthy v)) := by
  cases e with
  | UnaryOp o a p => cases o <;> first | rfl | cases h
  | _ => first | rfl | cases h
section
variable {gl : Str → Option PyData} {c : Str → List PyData → Option PyData}
theorem evP_of {e : E} (h : isNo e = false) (ρ : Rho) : evP gl c e ρ = (oneI (ev gl c e ρ)).map some := by
  cases e <;> first | (cases h; done) | (rw [evP]; intro z; cases z)
theorem evC_of {e : E} (h : isNo e = false) (ρ : Rho) : evC gl c e ρ = bz (ev gl c e ρ) := by
  cases e <;> first | (cases h; done) | (rw [evC]; intro z; cases z)
theorem isNo_eq {e : E} (h : isNo e = true) : e = .no := by
  cases e <;> first | rfl | cases h
theorem evF_len : ∀ {es : Es} {ρ : Rho} {ds : List PyData}, evF gl c es ρ = some ds → ds.length = lenEs es
  | .nil, ρ, ds, h => by
    rw [evF] at h; cases h; rfl
  | .cons e es, ρ, ds, h => by
    rw [evF] at h
    obtain ⟨d, e1, e2⟩ := Option.bind_eq_some_iff.mp h
    obtain ⟨r, e3, e4⟩ := Option.map_eq_some_iff.mp e2
    subst e4
    rw [List.length_cons, evF_len e3]; rfl
end
section
variable {G : Gm} {I : Inf} {c : Str → List PyData → Option PyData}
abbrev glI (I : Inf) : Str → Option PyData := fun x => I.gls.lookup x
theorem chkL_stars {I : Inf} {N : List Str} {sc : Scope} {fl : Option Scope} : ∀ (es : Es) {xs : List Expr}, chkL I N es sc fl xs = true → starsB xs = true
  | .nil, xs, h => by
    unfold chkL at h
    split at h
    · rfl
    · cases h
  | .cons e es, xs, h => by
    unfold chkL at h
    split at h
    · simp only [Bool.and_eq_true] at h
      rw [starsB, h.1.1, chkL_stars es h.2]; rfl
    · cases h
mutual
theorem chk_ok : ∀ (e : E) {X : Cx} {N : List Str} {sc : Scope} {fl : Option Scope} {x : Expr}, XOk G I c X N sc fl → chk I N e sc fl x = true → PE X x (tX G (ev (glI I) c e))
  | .non, X, N, sc, fl, x, h, k => by
    unfold chk at k
    split at k
    · exact PE.weak pe_non fun σ H Q q => x_const (k := .fz) (fun ρ => rfl) (fun Hf => rp_non) (tX_of (fun ρ => by rw [ev]) q)
    · cases k
  | .bl b, X, N, sc, fl, x, h, k => by
    unfold chk at k
    split at k
    · rw [← eq_of_beq k]
      exact PE.weak pe_bl fun σ H Q q => x_const (k := .fz) (fun ρ => rfl) (fun Hf => rp_bl) (tX_of (fun ρ => by rw [ev]) q)
    · cases k
  | .int i, X, N, sc, fl, x, h, k => by
    unfold chk at k
    split at k
    · rw [← of_decide_eq_true k]
      exact PE.weak pe_int fun σ H Q q => x_const (k := .fz) (fun ρ => rfl) (fun Hf => rp_int) (tX_of (fun ρ => by rw [ev]) q)
    · cases k
  | .str z, X, N, sc, fl, x, h, k => by
    unfold chk at k
    split at k
    · rw [← of_decide_eq_true k]
      exact PE.weak pe_str fun σ H Q q => x_const (k := .fz) (fun ρ => rfl) (fun Hf => rp_str) (tX_of (fun ρ => by rw [ev]) q)
    · cases k
  | .var i, X, N, sc, fl, x, h, k => by
    unfold chk at k
    split at k
    · simp only [Bool.and_eq_true, decide_eq_true_eq] at k
      obtain ⟨n1, n2, _⟩ := nm_dbg k.2
      exact PE.weak (pe_var (by rw [h.nm]; exact k.1.1) (h.vis k.1.2) n1 n2) fun σ H Q q => x_var (tX_of (fun ρ => by rw [ev] <;> rfl) q)
    · cases k
  | .glob z, X, N, sc, fl, x, h, k => by
    unfold chk at k
    split at k
    · simp only [Bool.and_eq_true, decide_eq_true_eq] at k
      obtain ⟨⟨⟨e, g⟩, n⟩, o⟩ := k
      subst e
      obtain ⟨n1, _, _⟩ := nm_dbg n
      obtain ⟨d, hd⟩ := Option.isSome_iff_exists.mp o
      obtain ⟨v, u, hm, r, rp⟩ := h.gl z d hd
      exact PE.weak (pe_glob (h.glo g) hm r n1) fun σ H Q q => x_const (k := .fz) (fun ρ => rfl) rp (tX_of (fun ρ => by rw [ev]; show Option.map _ (List.lookup z I.gls) = _; rw [hd]; rfl) q)
    · cases k
  | .bin o a b, X, N, sc, fl, x, h, k => by
    unfold chk at k
    split at k
    · simp only [Bool.and_eq_true, decide_eq_true_eq] at k
      obtain ⟨⟨e, k1⟩, k2⟩ := k
      subst e
      exact PE.weak (pe_op (op_bin h.K o) (chk_ok a h k1) (chk_ok b h k2)) fun σ H Q q => x_op (tX_of (fun ρ => by rw [ev]) q)
    · cases k
  | .neg a, X, N, sc, fl, x, h, k => by
    unfold chk at k
    split at k
    · exact PE.weak (pe_un un_neg (chk_ok a h k)) fun σ H Q q => x_neg (tX_of (fun ρ => by rw [ev]) q)
    · cases k
  | .cmp o a b, X, N, sc, fl, x, h, k => by
    unfold chk at k
    split at k
    · simp only [Bool.and_eq_true, decide_eq_true_eq, Bool.not_eq_true'] at k
      obtain ⟨⟨⟨e, m⟩, k1⟩, k2⟩ := k
      subst e
      refine PE.weak (pe_cmpR (op_cmp h.K h.un o) (chk_ok a h k1) (chk_ok b h k2) m) fun σ H Q q => x_op (tX_of (fun ρ => by rw [ev]) q)
    · cases k
  | .isN a, X, N, sc, fl, x, h, k => by
    unfold chk at k
    split at k
    · exact PE.weak (pe_cmpR op_isN (chk_ok a h k) pe_non rfl) fun σ H Q q => x_isN (tX_of (fun ρ => by rw [ev]) q)
    · cases k
  | .notN a, X, N, sc, fl, x, h, k => by
    unfold chk at k
    split at k
    · exact PE.weak (pe_cmpR op_notN (chk_ok a h k) pe_non rfl) fun σ H Q q => x_notN (tX_of (fun ρ => by rw [ev]) q)
    · cases k
  | .chain o o' a b c', X, N, sc, fl, x, h, k => by
    unfold chk at k
    split at k
    · simp only [Bool.and_eq_true, decide_eq_true_eq, Bool.not_eq_true'] at k
      obtain ⟨⟨⟨⟨⟨e, e'⟩, m⟩, k1⟩, k2⟩, k3⟩ := k
      subst e
      subst e'
      exact PE.weak (pe_chain (op_cmp h.K h.un o) (op_cmp h.K h.un o') (chk_ok a h k1) (chk_ok b h k2) (chk_ok c' h k3) m) fun σ H Q q => x_chain (tX_of (fun ρ => by rw [ev]) q)
    · cases k
  | .and_ es, X, N, sc, fl, x, h, k => by
    unfold chk at k
    split at k
    · simp only [Bool.and_eq_true, Bool.not_eq_true'] at k
      exact PE.weak (chkAnd_ok es h k.1 k.2) fun σ H Q q => tX_of (fun ρ => by rw [ev]) q
    · cases k
  | .or_ es, X, N, sc, fl, x, h, k => by
    unfold chk at k
    split at k
    · simp only [Bool.and_eq_true, Bool.not_eq_true'] at k
      exact PE.weak (chkOr_ok es h k.1 k.2) fun σ H Q q => tX_of (fun ρ => by rw [ev]) q
    · cases k
  | .not_ a, X, N, sc, fl, x, h, k => by
    unfold chk at k
    split at k
    · exact PE.weak (pe_not (chk_ok a h k)) fun σ H Q q => x_not (tX_of (fun ρ => by rw [ev]) q)
    · cases k
  | .ite t a b, X, N, sc, fl, x, h, k => by
    unfold chk at k
    split at k
    · simp only [Bool.and_eq_true] at k
      obtain ⟨⟨⟨t1, k1⟩, k2⟩, k3⟩ := k
      exact PE.weak (pe_ifExp (chk_t t h t1 k1) (chk_ok a h k2) (chk_ok b h k3)) fun σ H Q q => x_ite (tX_of (fun ρ => by rw [ev]) q)
    · cases k
  | .tup es, X, N, sc, fl, x, h, k => by
    unfold chk at k
    split at k
    · exact PE.weak (pe_tup (chkF_ok es h k)) fun σ H Q q => x_tup (tX_of (fun ρ => by rw [ev]) q)
    · cases k
  | .lst es, X, N, sc, fl, x, h, k => by
    unfold chk at k
    split at k
    · exact PE.weak (pe_lst (chkF_ok es h k)) fun σ H Q q => x_lst (tX_of (fun ρ => by rw [ev]) q)
    · cases k
  | .idx a b, X, N, sc, fl, x, h, k => by
    unfold chk at k
    split at k
    · simp only [Bool.and_eq_true] at k
      obtain ⟨⟨s, k1⟩, k2⟩ := k
      exact PE.weak (PE.or (pe_ix (ix_data h.K) (chk_ok a h k1) (chk_ok b h k2) (fun o i => slice1 s o i)) (pe_dget (by have := h.un; omega) (chk_ok a h k1) (chk_ok b h k2) (fun o i => slice1 s o i))) fun σ H Q q => x_idx (tX_of (fun ρ => by rw [ev]) q)
    · cases k
  | .sl a lo hi, X, N, sc, fl, x, h, k => by
    unfold chk at k
    split at k
    · simp only [Bool.and_eq_true] at k
      obtain ⟨⟨k1, k2⟩, k3⟩ := k
      exact PE.weak (pe_slice (sl_data h.K) (chk_ok a h k1) (chkP_ok lo h k2) (chkP_ok hi h k3)) fun σ H Q q => x_sl (tX_of (fun ρ => by rw [ev]) q)
    · cases k
  | .sset a, X, N, sc, fl, x, h, k => by
    unfold chk at k
    split at k
    · simp only [Bool.and_eq_true] at k
      obtain ⟨⟨⟨b1, b2⟩, s⟩, k1⟩ := k
      obtain ⟨rfl, g1, m1⟩ := h.blt b1
      obtain ⟨rfl, g2, m2⟩ := h.blt b2
      exact PE.weak (pe_sset g1 m1 g2 m2 (chk_ok a h k1) h.calm (star1 s _ _)) fun σ H Q q => x_sset h.K (tX_of (fun ρ => by rw [ev] <;> rfl) q)
    · cases k
  | .rng t a b, X, N, sc, fl, x, h, k => by
    unfold chk at k
    split at k
    · simp only [Bool.and_eq_true] at k
      obtain ⟨⟨⟨⟨n, b1⟩, b2⟩, s⟩, k1⟩ := k
      obtain rfl := isNo_eq n
      obtain ⟨rfl, g1, m1⟩ := h.blt b1
      obtain ⟨rfl, g2, m2⟩ := h.blt b2
      cases t with
      | true =>
        refine PE.weak (pe_tupRg h.calm g1 m1 (prg_1 g2 m2 (chk_ok b h k1) (star1 s _ _))) fun σ H Q q => x_tg1 (tX_of (fun ρ => ?_) q)
        rw [ev, evP]; simp only [Option.bind_some, Option.getD_none, if_true]
      | false =>
        refine PE.weak (pe_listRg h.calm g1 m1 (prg_1 g2 m2 (chk_ok b h k1) (star1 s _ _))) fun σ H Q q => x_rg1 (tX_of (fun ρ => ?_) q)
        rw [ev, evP]; simp only [Option.bind_some, Option.getD_none, if_neg Bool.false_ne_true]
    · simp only [Bool.and_eq_true, Bool.not_eq_true'] at k
      obtain ⟨⟨⟨⟨⟨⟨n, b1⟩, b2⟩, s⟩, s2⟩, k1⟩, k2⟩ := k
      obtain ⟨rfl, g1, m1⟩ := h.blt b1
      obtain ⟨rfl, g2, m2⟩ := h.blt b2
      have st : starsB [‹Expr›] = true → True := fun _ => trivial
      cases t with
      | true =>
        refine PE.weak (pe_tupRg h.calm g1 m1 (prg_2 g2 m2 (chk_ok a h k1) (chk_ok b h k2) (star1 s _ _) (star1 s2 _ _) (stars_any (by simp [starsB, s2])))) fun σ H Q q => x_tg2 (tX_of (fun ρ => ?_) q)
        rw [ev, evP_of n]
        cases oneI (ev (glI I) c a ρ) <;> simp only [Option.map_none, Option.map_some, Option.bind_some, Option.bind_none, Option.getD_some, if_true]
      | false =>
        refine PE.weak (pe_listRg h.calm g1 m1 (prg_2 g2 m2 (chk_ok a h k1) (chk_ok b h k2) (star1 s _ _) (star1 s2 _ _) (stars_any (by simp [starsB, s2])))) fun σ H Q q => x_rg2 (tX_of (fun ρ => ?_) q)
        rw [ev, evP_of n]
        cases oneI (ev (glI I) c a ρ) <;> simp only [Option.map_none, Option.map_some, Option.bind_some, Option.bind_none, Option.getD_some, if_neg Bool.false_ne_true]
    · cases k
  | .call f es, X, N, sc, fl, x, h, k => by
    unfold chk at k
    split at k
    · rename_i y _ xs _
      simp only [Bool.and_eq_true, decide_eq_true_eq] at k
      obtain ⟨⟨⟨⟨e, g⟩, n⟩, l⟩, k1⟩ := k
      subst e
      obtain ⟨n1, _, _⟩ := nm_dbg n
      obtain ⟨kk, fa, fd, ps, F, R, hm, hk, hb⟩ := h.fu f _ l
      have pa := chkF_ok es h k1
      have st := chkL_stars es k1
      have w : ∀ σ H Q, tX G (ev (glI I) c (.call f es)) σ H Q → tCall (spD G (lenEs es) (c f)) [] L2.E0 (tFs G (evF (glI I) c es)) σ H Q := fun σ H Q q =>
        x_call (fun ρ ds hd => evF_len hd) (tX_of (fun ρ => by rw [ev]) q)
      cases xs with
      | nil =>
        cases es with
        | nil => exact PE.weak (pe_call0 F R (h.glo g) hm hk hb .nil L2.pass0 n1) fun σ H Q q => tFs_nil (w σ H Q q) (fun ρ => by rw [evF])
        | cons _ _ => unfold chkL at k1; cases k1
      | cons e r =>
        rw [starsB, Bool.and_eq_true] at st
        exact PE.weak (pe_call F R (h.glo g) hm hk hb .nil L2.pass0 pa n1 (star1 st.1 _ _) (stars_any st.2)) w
    · cases k
  | .blt f es, X, N, sc, fl, x, h, k => by
    unfold chk at k
    split at k
    · rename_i y _ xs _
      simp only [Bool.and_eq_true, Bool.not_eq_true'] at k
      obtain ⟨⟨b, ne⟩, k1⟩ := k
      obtain ⟨rfl, g1, m1⟩ := h.blt b
      have pa := chkV_ok es h k1
      have st := chkL_stars es k1
      have bb := boot_bi f
      obtain ⟨z1, z2⟩ := biN_ne f
      have cr := cr_bi h.K h.calm h.un f
      cases xs with
      | nil => cases ne
      | cons e r =>
        rw [starsB, Bool.and_eq_true] at st
        have w : ∀ σ H Q, tX G (ev (glI I) c (.blt f es)) σ H Q → tCB (rC G (dBi f)) (tXs G (evV (glI I) c es)) σ H Q := fun σ H Q q => x_cb (tX_of (fun ρ => by rw [ev]) q)
        cases f with
        | int => exact PE.weak (pe_callTy cr g1 m1 bb pa z1 z2 (star1 st.1 _ _) (stars_any st.2)) w
        | list => exact PE.weak (pe_callTy cr g1 m1 bb pa z1 z2 (star1 st.1 _ _) (stars_any st.2)) w
        | tuple => exact PE.weak (pe_callTy cr g1 m1 bb pa z1 z2 (star1 st.1 _ _) (stars_any st.2)) w
        | _ => exact PE.weak (pe_callB cr g1 m1 bb pa z1 z2 (star1 st.1 _ _) (stars_any st.2)) w
    · cases k
  | .isi a ty, X, N, sc, fl, x, h, k => by
    unfold chk at k
    split at k
    · simp only [Bool.and_eq_true, Bool.or_eq_true, beq_iff_eq] at k
      obtain ⟨⟨⟨⟨b, s⟩, b2⟩, ht⟩, k1⟩ := k
      obtain ⟨rfl, g1, m1⟩ := h.blt b
      obtain ⟨rfl, g2, m2⟩ := h.blt b2
      have pt : ∀ p, PE X (.Name (Str.ofString ty) p) (tC (.ty ty)) := by
        intro p
        rcases ht with ((ht | ht) | ht) | ht <;> subst ht
        · exact pe_bltn g2 m2 (u := .type "int") (by first | rfl | kernel_rfl) rfl
        · exact pe_bltn g2 m2 (u := .type "bool") (by first | rfl | kernel_rfl) rfl
        · exact pe_bltn g2 m2 (u := .type "tuple") (by first | rfl | kernel_rfl) rfl
        · exact pe_bltn g2 m2 (u := .type "str") (by first | rfl | kernel_rfl) rfl
      exact PE.weak (pe_callB call_isi g1 m1 boot_isinstance (pa_cons (chk_ok a h k1) (pa_cons (pt _) pa_nil) (star1 s _ _)) (by decide) (by decide) (star1 s _ _) (stars_any rfl)) fun σ H Q q => x_isi h.K (tX_of (fun ρ => by rw [ev]) q)
    · cases k
  | .dis es, X, N, sc, fl, x, h, k => by
    unfold chk at k
    split at k
    · rename_i ks vs _
      simp only [Bool.and_eq_true, decide_eq_true_eq] at k
      obtain ⟨trs, p, a1, a2, t⟩ := chkKV_ok es h k.2 ‹Pos›
      cases ks with
      | nil =>
        cases es with
        | nil =>
          have hv : vs = [] := by
            have := k.2
            cases vs with
            | nil => rfl
            | cons _ _ => simp [chkKV] at this
          subst hv
          exact PE.weak pe_dnewK fun σ H Q q => x_dis0 (tX_of (fun ρ => by rw [ev, evKV] <;> rfl) q)
        | cons e r =>
          have := k.2
          cases r with
          | nil => unfold chkKV at this; cases this
          | cons _ _ => unfold chkKV at this; cases this
      | cons k0 ks => exact PE.weak (pe_disp p a1 a2 (by simp) k.1) fun σ H Q q => x_dis t (tX_of (fun ρ => by rw [ev]) q)
    · cases k
  | .dget d k' x', X, N, sc, fl, x, h, k => by
    unfold chk at k
    split at k
    · simp only [Bool.and_eq_true, decide_eq_true_eq] at k
      obtain ⟨⟨⟨⟨⟨⟨⟨e, nb⟩, ln⟩, s1⟩, s2⟩, k1⟩, k2⟩, k3⟩ := k
      subst e
      refine PE.weak (pe_dget2 (by have := h.un; omega) (chk_ok d h k1) (chk_ok k' h k2) (chk_ok x' h k3) ⟨base1 nb _ _ _, ?_, ln, ?_⟩) fun σ H Q q => x_dget (tX_of (fun ρ => by rw [ev] <;> rfl) q)
      · rw [star1 s1, star1 s2]; rfl
      · rw [star1 s1, star1 s2]; rfl
    · cases k
  | .comp elt tg it cond own, X, N, sc, fl, x, h, k => by
    unfold chk at k
    split at k
    · simp only [Bool.and_eq_true] at k
      obtain ⟨⟨⟨⟨⟨⟨⟨ns, b⟩, pl⟩, ki⟩, kt⟩, tk⟩, kc⟩, ke⟩ := k
      have pi := chkI_ok it h ki
      have hp : ∀ i ∈ plT tg, i ∈ own.map (·.2) := fun i hi => by
        have := List.all_eq_true.mp pl i hi
        rw [List.any_eq_true] at this
        obtain ⟨j, h1, h2⟩ := this
        rw [← of_decide_eq_true h2]; exact h1
      refine PE.weak (pe_lc (g := gT X.K tg) (tt := tT G (evC (glI I) c cond)) (te := tX G (ev (glI I) c elt)) h.calm (by rw [h.nm]; exact h.nd) pi (blk_ok h b) (fun s H C cl fp => chkTg_ok (h.blk s H C cl fp) tg kt) (fun s H C cl fp => chkC_ok cond (h.blk s H C cl fp) tk kc) (fun s H C cl fp => chk_ok elt (h.blk s H C cl fp) ke) (fun v => fold1 ns _ v)) fun σ H Q q => ?_
      rw [← h.K]
      exact x_comp hp (tX_of (fun ρ => by rw [ev]) q)
    · cases k
  | .no, X, N, sc, fl, x, h, k => by simp [chk] at k
  | .rev _, X, N, sc, fl, x, h, k => by simp [chk] at k
  | .callv _ _, X, N, sc, fl, x, h, k => by simp [chk] at k
  | .dcomp _ _ _ _ _ _, X, N, sc, fl, x, h, k => by simp [chk] at k
termination_by e => (sizeOf e, 0)
theorem chkP_ok : ∀ (e : E) {X : Cx} {N : List Str} {sc : Scope} {fl : Option Scope} {x : Option Expr}, XOk G I c X N sc fl → optB (isNo e) (chk I N e sc fl) x = true → PO X x (tP G (evP (glI I) c e))
  | e, X, N, sc, fl, x, h, k => by
    cases x with
    | none =>
      obtain rfl := isNo_eq k
      exact PO.weak po_none fun σ H Q q => p_none (tP_of (fun ρ => by rw [evP]) q)
    | some y =>
      simp only [optB, Bool.and_eq_true, Bool.not_eq_true'] at k
      exact PO.weak (po_some (chk_ok e h k.2)) fun σ H Q q => p_some (tP_of (fun ρ => evP_of k.1 ρ) q)
termination_by e => (sizeOf e, 2)
theorem chkC_ok : ∀ (e : E) {X : Cx} {N : List Str} {sc : Scope} {fl : Option Scope} {xs : List Expr}, XOk G I c X N sc fl → tOk e = true → ifsB (isNo e) (chk I N e sc fl) xs = true → PTs X xs (tT G (evC (glI I) c e))
  | e, X, N, sc, fl, xs, h, t, k => by
    match xs, k with
    | [], k =>
      obtain rfl := isNo_eq k
      refine PTs.weak pts_nil fun σ H Q q => ?_
      obtain ⟨Hf, ρ, b, S, e, q⟩ := q
      rw [evC] at e
      cases e
      exact q Hf H (Gr.refl S.sub)
    | [y], k =>
      simp only [ifsB, Bool.and_eq_true, Bool.not_eq_true'] at k
      exact PTs.weak (pts_one (chk_t e h t k.2)) fun σ H Q q => tT_of (fun ρ => evC_of k.1 ρ) q
    | _ :: _ :: _, k => cases k
termination_by e => (sizeOf e, 2)
theorem chk_t : ∀ (e : E) {X : Cx} {N : List Str} {sc : Scope} {fl : Option Scope} {x : Expr}, XOk G I c X N sc fl → tOk e = true → chk I N e sc fl x = true → PT X x (tT G fun ρ => bz (ev (glI I) c e ρ))
  | e, X, N, sc, fl, x, h, t, k => by
    by_cases pl : plainT x = true
    · exact PT.weak (pt_val (chk_ok e h k) (fun w => isT1 pl _ w)) fun σ H Q q => t_val q
    · match e, t, k with
      | .not_ a, t, k =>
        unfold chk at k
        split at k
        · exact PT.weak (pt_not (chk_t a h (by simpa [tOk] using t) k)) fun σ H Q q => t_not (tT_of (fun ρ => by rw [ev]; cases bz (ev (glI I) c a ρ) <;> rfl) q)
        · cases k
      | .and_ es, t, k =>
        unfold chk at k
        split at k
        · simp only [Bool.and_eq_true, Bool.not_eq_true'] at k
          exact PT.weak (chkAndT_ok es h (by simpa [tOk] using t) k.1 k.2).pt fun σ H Q q => tT_of (fun ρ => by rw [ev]; cases evAnd (glI I) c es ρ <;> rfl) q
        · cases k
      | .or_ es, t, k =>
        unfold chk at k
        split at k
        · simp only [Bool.and_eq_true, Bool.not_eq_true'] at k
          exact PT.weak (chkOrT_ok es h (by simpa [tOk] using t) k.1 k.2).pt fun σ H Q q => tT_of (fun ρ => by rw [ev]; cases evOr (glI I) c es ρ <;> rfl) q
        · cases k
      | .cmp o a b, t, k =>
        unfold chk at k
        split at k
        · simp only [Bool.and_eq_true, decide_eq_true_eq, Bool.not_eq_true'] at k
          obtain ⟨⟨⟨e, m⟩, k1⟩, k2⟩ := k
          subst e
          exact PT.weak (pt_cmpR (op_cmp h.K h.un o) (chk_ok a h k1) (chk_ok b h k2) m) fun σ H Q q => t_test (fun σ H Q q => x_op (tX_of (fun ρ => by rw [ev]) q)) q
        · cases k
      | .isN a, t, k =>
        unfold chk at k
        split at k
        · exact PT.weak (pt_cmpR op_isN (chk_ok a h k) pe_non rfl) fun σ H Q q => t_test (fun σ H Q q => x_isN (tX_of (fun ρ => by rw [ev]) q)) q
        · cases k
      | .notN a, t, k =>
        unfold chk at k
        split at k
        · exact PT.weak (pt_cmpR op_notN (chk_ok a h k) pe_non rfl) fun σ H Q q => t_test (fun σ H Q q => x_notN (tX_of (fun ρ => by rw [ev]) q)) q
        · cases k
      | .chain o o' a b c', t, k =>
        unfold chk at k
        split at k
        · simp only [Bool.and_eq_true, decide_eq_true_eq, Bool.not_eq_true'] at k
          obtain ⟨⟨⟨⟨⟨e, e'⟩, m⟩, k1⟩, k2⟩, k3⟩ := k
          subst e
          subst e'
          exact PT.weak (pt_chain (op_cmp h.K h.un o) (op_cmp h.K h.un o') (chk_ok a h k1) (chk_ok b h k2) (chk_ok c' h k3) m) fun σ H Q q => t_test (fun σ H Q q => x_chain (tX_of (fun ρ => by rw [ev]) q)) q
        · cases k
      | .ite _ _ _, t, k => simp [tOk] at t
      | .non, t, k | .bl _, t, k | .int _, t, k | .str _, t, k | .var _, t, k | .glob _, t, k | .bin _ _ _, t, k | .neg _, t, k | .tup _, t, k | .lst _, t, k | .idx _ _, t, k | .sl _ _ _, t, k | .sset _, t, k | .rng _ _ _, t, k | .call _ _, t, k | .blt _ _, t, k | .isi _ _, t, k | .dis _, t, k | .dget _ _ _, t, k | .comp _ _ _ _ _, t, k =>
        exact absurd (by unfold chk at k; split at k <;> first | rfl | cases k) pl
      | .no, t, k | .rev _, t, k | .callv _ _, t, k | .dcomp _ _ _ _ _ _, t, k => simp [chk] at k
termination_by e => (sizeOf e, 1)
theorem chkF_ok : ∀ (es : Es) {X : Cx} {N : List Str} {sc : Scope} {fl : Option Scope} {xs : List Expr}, XOk G I c X N sc fl → chkL I N es sc fl xs = true → PA X xs (tFs G (evF (glI I) c es))
  | .nil, X, N, sc, fl, xs, h, k => by
    unfold chkL at k
    split at k
    · exact PA.weak pa_nil fun σ H Q q => fs_nil (tFs_of (fun ρ => by rw [evF]) q)
    · cases k
  | .cons e es, X, N, sc, fl, xs, h, k => by
    unfold chkL at k
    split at k
    · simp only [Bool.and_eq_true] at k
      exact PA.weak (pa_cons (chk_ok e h k.1.2) (chkF_ok es h k.2) (star1 k.1.1 _ _)) fun σ H Q q => fs_cons (tFs_of (fun ρ => by rw [evF]) q)
    · cases k
termination_by es => (sizeOf es, 0)
theorem chkV_ok : ∀ (es : Es) {X : Cx} {N : List Str} {sc : Scope} {fl : Option Scope} {xs : List Expr}, XOk G I c X N sc fl → chkL I N es sc fl xs = true → PA X xs (tXs G (evV (glI I) c es))
  | .nil, X, N, sc, fl, xs, h, k => by
    unfold chkL at k
    split at k
    · exact PA.weak pa_nil fun σ H Q q => xs_nil (tXs_of (fun ρ => by rw [evV]) q)
    · cases k
  | .cons e es, X, N, sc, fl, xs, h, k => by
    unfold chkL at k
    split at k
    · simp only [Bool.and_eq_true] at k
      exact PA.weak (pa_cons (chk_ok e h k.1.2) (chkV_ok es h k.2) (star1 k.1.1 _ _)) fun σ H Q q => xs_cons (tXs_of (fun ρ => by rw [evV]) q)
    · cases k
termination_by es => (sizeOf es, 0)
theorem chkAnd_ok : ∀ (es : Es) {X : Cx} {N : List Str} {sc : Scope} {fl : Option Scope} {xs : List Expr} {pos : Pos}, XOk G I c X N sc fl → xs.isEmpty = false → chkL I N es sc fl xs = true →
    PE X (.BoolOp .And xs pos) (tX G fun ρ => (evAnd (glI I) c es ρ).map fun b => (.fz, .bool b))
  | .nil, X, N, sc, fl, xs, pos, h, ne, k => by
    unfold chkL at k
    split at k
    · cases ne
    · cases k
  | .cons e .nil, X, N, sc, fl, xs, pos, h, ne, k => by
    unfold chkL at k
    split at k
    · simp only [Bool.and_eq_true] at k
      rename_i x r
      have hr : r = [] := by
        have := k.2
        unfold chkL at this
        split at this
        · rfl
        · cases this
      subst hr
      exact PE.weak (pe_one (chk_ok e h k.1.2)) fun σ H Q q => x_bz (tX_of (fun ρ => by rw [evAnd]) q)
    · cases k
  | .cons e (.cons e2 es), X, N, sc, fl, xs, pos, h, ne, k => by
    unfold chkL at k
    split at k
    · simp only [Bool.and_eq_true] at k
      rename_i x r
      cases r with
      | nil => have := k.2; unfold chkL at this; cases this
      | cons y r =>
        exact PE.weak (pe_and (chk_ok e h k.1.2) (chkAnd_ok (.cons e2 es) h rfl k.2)) fun σ H Q q => x_and (tX_of (fun ρ => by rw [evAnd]; intro z; cases z) q)
    · cases k
termination_by es => (sizeOf es, 0)
theorem chkOr_ok : ∀ (es : Es) {X : Cx} {N : List Str} {sc : Scope} {fl : Option Scope} {xs : List Expr} {pos : Pos}, XOk G I c X N sc fl → xs.isEmpty = false → chkL I N es sc fl xs = true →
    PE X (.BoolOp .Or xs pos) (tX G fun ρ => (evOr (glI I) c es ρ).map fun b => (.fz, .bool b))
  | .nil, X, N, sc, fl, xs, pos, h, ne, k => by
    unfold chkL at k
    split at k
    · cases ne
    · cases k
  | .cons e .nil, X, N, sc, fl, xs, pos, h, ne, k => by
    unfold chkL at k
    split at k
    · simp only [Bool.and_eq_true] at k
      rename_i x r
      have hr : r = [] := by
        have := k.2
        unfold chkL at this
        split at this
        · rfl
        · cases this
      subst hr
      exact PE.weak (pe_one (chk_ok e h k.1.2)) fun σ H Q q => x_bz (tX_of (fun ρ => by rw [evOr]) q)
    · cases k
  | .cons e (.cons e2 es), X, N, sc, fl, xs, pos, h, ne, k => by
    unfold chkL at k
    split at k
    · simp only [Bool.and_eq_true] at k
      rename_i x r
      cases r with
      | nil => have := k.2; unfold chkL at this; cases this
      | cons y r =>
        exact PE.weak (pe_or (chk_ok e h k.1.2) (chkOr_ok (.cons e2 es) h rfl k.2)) fun σ H Q q => x_or (tX_of (fun ρ => by rw [evOr]; intro z; cases z) q)
    · cases k
termination_by es => (sizeOf es, 0)
theorem chkAndT_ok : ∀ (es : Es) {X : Cx} {N : List Str} {sc : Scope} {fl : Option Scope} {xs : List Expr} {pos : Pos}, XOk G I c X N sc fl → tOks es = true → xs.isEmpty = false → chkL I N es sc fl xs = true →
    PW X (.BoolOp .And xs pos) (tT G (evAnd (glI I) c es))
  | .nil, X, N, sc, fl, xs, pos, h, t, ne, k => by
    unfold chkL at k
    split at k
    · cases ne
    · cases k
  | .cons e .nil, X, N, sc, fl, xs, pos, h, t, ne, k => by
    unfold chkL at k
    rw [tOks, Bool.and_eq_true] at t
    split at k
    · simp only [Bool.and_eq_true] at k
      rename_i x r
      have hr : r = [] := by
        have := k.2
        unfold chkL at this
        split at this
        · rfl
        · cases this
      subst hr
      exact PW.weak (pw_and1 (chk_t e h t.1 k.1.2)) fun σ H Q q => tT_of (fun ρ => by rw [evAnd]) q
    · cases k
  | .cons e (.cons e2 es), X, N, sc, fl, xs, pos, h, t, ne, k => by
    unfold chkL at k
    rw [tOks, Bool.and_eq_true] at t
    split at k
    · simp only [Bool.and_eq_true] at k
      rename_i x r
      cases r with
      | nil => have := k.2; unfold chkL at this; cases this
      | cons y r =>
        exact PW.weak (pw_and (chk_t e h t.1 k.1.2) (chkAndT_ok (.cons e2 es) h t.2 rfl k.2)) fun σ H Q q => t_and (tT_of (fun ρ => by rw [evAnd]; intro z; cases z) q)
    · cases k
termination_by es => (sizeOf es, 0)
theorem chkOrT_ok : ∀ (es : Es) {X : Cx} {N : List Str} {sc : Scope} {fl : Option Scope} {xs : List Expr} {pos : Pos}, XOk G I c X N sc fl → tOks es = true → xs.isEmpty = false → chkL I N es sc fl xs = true →
    PW X (.BoolOp .Or xs pos) (tT G (evOr (glI I) c es))
  | .nil, X, N, sc, fl, xs, pos, h, t, ne, k => by
    unfold chkL at k
    split at k
    · cases ne
    · cases k
  | .cons e .nil, X, N, sc, fl, xs, pos, h, t, ne, k => by
    unfold chkL at k
    rw [tOks, Bool.and_eq_true] at t
    split at k
    · simp only [Bool.and_eq_true] at k
      rename_i x r
      have hr : r = [] := by
        have := k.2
        unfold chkL at this
        split at this
        · rfl
        · cases this
      subst hr
      exact PW.weak (pw_or1 (chk_t e h t.1 k.1.2)) fun σ H Q q => tT_of (fun ρ => by rw [evOr]) q
    · cases k
  | .cons e (.cons e2 es), X, N, sc, fl, xs, pos, h, t, ne, k => by
    unfold chkL at k
    rw [tOks, Bool.and_eq_true] at t
    split at k
    · simp only [Bool.and_eq_true] at k
      rename_i x r
      cases r with
      | nil => have := k.2; unfold chkL at this; cases this
      | cons y r =>
        exact PW.weak (pw_or (chk_t e h t.1 k.1.2) (chkOrT_ok (.cons e2 es) h t.2 rfl k.2)) fun σ H Q q => t_or (tT_of (fun ρ => by rw [evOr]; intro z; cases z) q)
    · cases k
termination_by es => (sizeOf es, 0)
theorem chkKV_ok : ∀ (es : Es) {X : Cx} {N : List Str} {sc : Scope} {fl : Option Scope} {ks : List (Option Expr)} {vs : List Expr}, XOk G I c X N sc fl → chkKV I N es sc fl ks vs = true → ∀ pos : Pos,
    ∃ trs, PPs X pos ks vs trs ∧ ks.all (·.isSome) = true ∧ ks.length = vs.length ∧ ∀ σ H Q, tKV G (evKV (glI I) c es) σ H Q → tPairs trs σ H Q
  | .nil, X, N, sc, fl, ks, vs, h, k, pos => by
    unfold chkKV at k
    split at k
    · exact ⟨[], pps_nil, rfl, rfl, fun σ H Q q => kv_nil (tKV_of (fun ρ => by rw [evKV]) q)⟩
    · cases k
  | .cons a (.cons b r), X, N, sc, fl, ks, vs, h, k, pos => by
    unfold chkKV at k
    split at k
    · simp only [Bool.and_eq_true] at k
      obtain ⟨trs, p, a1, a2, t⟩ := chkKV_ok r h k.2 pos
      exact ⟨_, pps_cons (chk_ok a h k.1.1) (chk_ok b h k.1.2) p, by simpa using a1, by simpa using a2, fun σ H Q q => kv_cons t (tKV_of (fun ρ => by rw [evKV]) q)⟩
    · cases k
  | .cons _ .nil, X, N, sc, fl, ks, vs, h, k, pos => by simp [chkKV] at k
termination_by es => (sizeOf es, 0)
theorem chkI_ok : ∀ (w : Wi) {X : Cx} {N : List Str} {sc : Scope} {fl : Option Scope} {tg x : Expr}, XOk G I c X N sc fl → chkI I N w sc fl tg x = true → PI X tg x (tI G (evI (glI I) c w))
  | .over e, X, N, sc, fl, tg, x, h, k => by
    unfold chkI at k
    exact PI.weak (pi_over h.K (chk_ok e h k)) fun σ H Q q => tI_of (fun ρ => by rw [evI] <;> rfl) q
  | .range1 a, X, N, sc, fl, tg, x, h, k => by
    unfold chkI at k
    split at k
    · simp only [Bool.and_eq_true] at k
      obtain ⟨⟨b, s⟩, k1⟩ := k
      obtain ⟨rfl, g1, m1⟩ := h.blt b
      exact PI.weak (pi_range1 g1 m1 (pa_cons (chk_ok a h k1) pa_nil (star1 s _ _)) (star1 s _ _)) fun σ H Q q => i_range1 (tI_of (fun ρ => by rw [evI]) q)
    · cases k
  | .range2 a b, X, N, sc, fl, tg, x, h, k => by
    unfold chkI at k
    split at k
    · simp only [Bool.and_eq_true] at k
      obtain ⟨⟨⟨⟨bb, s⟩, s2⟩, k1⟩, k2⟩ := k
      obtain ⟨rfl, g1, m1⟩ := h.blt bb
      exact PI.weak (pi_range2 g1 m1 (pa_cons (chk_ok a h k1) (pa_cons (chk_ok b h k2) pa_nil (star1 s2 _ _)) (star1 s _ _)) (by rw [star1 s, star1 s2]; rfl) (star1 s2 _ _)) fun σ H Q q => i_range2 (tI_of (fun ρ => by rw [evI]) q)
    · cases k
  | .enum a, X, N, sc, fl, tg, x, h, k => by
    unfold chkI at k
    split at k
    · simp only [Bool.and_eq_true] at k
      obtain ⟨⟨b, s⟩, k1⟩ := k
      obtain ⟨rfl, g1, m1⟩ := h.blt b
      exact PI.weak (pi_enum g1 m1 (pa_cons (chk_ok a h k1) pa_nil (star1 s _ _)) (star1 s _ _)) fun σ H Q q => i_enum h.K (tI_of (fun ρ => by rw [evI] <;> rfl) q)
    · cases k
  | .zip2 a b, X, N, sc, fl, tg, x, h, k => by
    unfold chkI at k
    split at k
    · simp only [Bool.and_eq_true] at k
      obtain ⟨⟨⟨⟨bb, s⟩, s2⟩, k1⟩, k2⟩ := k
      obtain ⟨rfl, g1, m1⟩ := h.blt bb
      exact PI.weak (RZ.pi_zipA g1 m1 (pa_cons (chk_ok a h k1) (pa_cons (chk_ok b h k2) pa_nil (star1 s2 _ _)) (star1 s _ _)) (star1 s _ _) (stars_any (by simp [starsB, s2]))) fun σ H Q q => i_zip2 h.K (tI_of (fun ρ => by rw [evI] <;> rfl) q)
    · cases k
  | .zip3 _ _ _, X, N, sc, fl, tg, x, h, k => by simp [chkI] at k
termination_by w => (sizeOf w, 0)
end
end
end Bw

namespace Bw
open PySem PySem.Spec PyProof.Rows L2
/-! statements: the text and its deep form -/
def bkB (sc : Scope) : ScopeKind := if sc.kind.isAnnotationScope then .function else sc.kind
/-- does a comprehension's value swap with the name -/
def swB (sc : Scope) (y : Str) (p : Pos) : Expr → Bool
  | .ListComp _ _ s cp | .SetComp _ _ s cp | .DictComp _ _ _ s cp => bkB sc == .function && sc.names.lookup y == some .local && p.line == cp.line && !(s.names.any fun (n, k) => n == y && (k == .local || k == .cell))
  | _ => false
theorem swap_name {sc : Scope} {env : Env} (h : env.scope = sc) (x : Expr) (y : Str) (p : Pos) (line : Nat) : swapsWith x (some (.Name y p)) line env = pure (swB sc y p x) := by
  subst h
  cases x <;> rfl
def isName : Expr → Bool
  | .Name _ _ => true
  | _ => false
theorem swap_other {t : Expr} (h : isName t = false) (x : Expr) (line : Nat) (env : Env) : swapsWith x (some t) line env = pure false := by
  cases t <;> first | (cases h; done) | (cases x <;> rfl)
theorem swap_sole {t : Expr} (h : isName t = false) (x : Expr) (line : Nat) (env : Env) : swapsWithSole [t] x line env = pure false := swap_other h x line env
def isCall : Expr → Bool
  | .Call _ _ _ _ => true
  | _ => false
theorem swap_call {x : Expr} (h : isCall x = true) (line : Nat) (env : Env) : swapsWith x none line env = pure false := by
  cases x <;> first | rfl | cases h
def isTup : Expr → Bool
  | .Tuple _ _ _ => true
  | _ => false
def isLst : Expr → Bool
  | .List _ _ => true
  | _ => false
theorem stores_none {t x : Expr} (h : isTup x = false ∨ (isTup t = false ∧ isLst t = false)) (env : Env) : swappedStores [t] x env = pure none := by
  rcases h with h | ⟨h1, h2⟩
  · cases x <;> first | (cases h; done) | (cases t <;> rfl)
  · cases t <;> first | (cases h1; done) | (cases h2; done) | rfl
def swSt (sc : Scope) (ts vs : List Expr) : Option (Option (List Str)) :=
  if (!(ts.length == 2 || ts.length == 3) || vs.length != ts.length || bkB sc != .function) = true then some none
  else if (vs.any fun | .Starred .. => true | _ => false) = true then some none
  else
    let line := (ts.head?.map (·.pos.line)).getD 0
    let names := ts.filterMap fun
      | .Name id pos => if sc.names.lookup id == some .local && pos.line == line then some id else none
      | _ => none
    if (names.length != ts.length || names.eraseDups.length != names.length) = true then some none
    else if vs.all (foldedForSure 8) = true then some none
    else if vs.all (constantsAlone 8) = true then none
    else some (some names)
theorem stores_tup {sc : Scope} {env : Env} (h : env.scope = sc) {ts vs : List Expr} {k k2 : Nat} {p p2 : Pos} {r : Option (List Str)} (e : swSt sc ts vs = some r) : swappedStores [.Tuple ts k p] (.Tuple vs k2 p2) env = pure r := by
  subst h
  unfold swSt at e
  unfold swappedStores
  simp only [pure_bind]
  split at e
  · rename_i c
    cases e
    exact if_pos c
  · rename_i c
    refine (if_neg c).trans ?_
    split at e
    · rename_i c2
      cases e
      exact if_pos c2
    · rename_i c2
      refine (if_neg c2).trans ?_
      dsimp only at e
      split at e
      · rename_i c3
        cases e
        exact if_pos c3
      · rename_i c3
        refine (if_neg c3).trans ?_
        split at e
        · rename_i c4
          cases e
          exact if_pos c4
        · rename_i c4
          refine (if_neg c4).trans ?_
          split at e
          · cases e
          · rename_i c5
            cases e
            exact if_neg c5
section
variable (I : Inf) (N : List Str)
def nameB (sc : Scope) (i : Nat) (y : Str) : Bool := decide (N[i]? = some y) && visB sc y && nmB y
mutual
def chkS : Sm → Scope → Option Scope → Stmt → Bool
  | .app i e, sc, fl, s => match s with
    | .Expr (.Call (.Attribute (.Name y _) m ap) [x] [] cp) _ => nameB N sc i y && decide (m = ("append" : Str)) && (ap.endLine == cp.line) && noStar x && chk I N e sc fl x
    | _ => false
  | .ext i e, sc, fl, s => match s with
    | .Expr (.Call (.Attribute (.Name y _) m ap) [x] [] cp) _ => nameB N sc i y && decide (m = ("extend" : Str)) && (ap.endLine == cp.line) && noStar x && chk I N e sc fl x
    | _ => false
  | .drop e, sc, fl, s => match s with
    | .Expr x _ => isCall x && chk I N e sc fl x
    | _ => false
  | .set i e, sc, fl, s => match s with
    | .Assign [.Name y p] x _ => decide (N[i]? = some y) && locB sc fl y && visB sc y && chk I N e sc fl x && (!swB sc y p x || (sc.names.lookup y == some .local))
    | _ => false
  | .setT t e, sc, fl, s => match s with
    | .Assign [tg] x _ => isTup tg && chkTg N sc fl t tg && chk I N e sc fl x && (!isTup x || match tg, x with
        | .Tuple ts _ _, .Tuple vs _ _ => decide (swSt sc ts vs = some none)
        | _, _ => false)
    | _ => false
  | .par i j a b, sc, fl, s => match s with
    | .Assign [.Tuple [.Name x px, .Name y py] _ _] (.Tuple [a', b'] _ _) _ => decide (N[i]? = some x) && decide (N[j]? = some y) && decide (i ≠ j) && (sc.names.lookup x == some .local) && (sc.names.lookup y == some .local) &&
        decide (swSt sc [.Name x px, .Name y py] [a', b'] = some (some [x, y])) && noStar a' && noStar b' && chk I N a sc fl a' && chk I N b sc fl b'
    | _ => false
  | .aug i o e, sc, fl, s => match s with
    | .AugAssign (.Name y _) op x _ => decide (N[i]? = some y) && locB sc fl y && decide (op = opOf o) && (augI o).isSome && chk I N e sc fl x
    | _ => false
  | .put i k v, sc, fl, s => match s with
    | .Assign [.Subscript (.Name y _) k' _] v' _ => nameB N sc i y && noSlice k' && chk I N k sc fl k' && chk I N v sc fl v'
    | _ => false
  | .ite c a b, sc, fl, s => match s with
    | .If c' a' b' _ => tOk c && chk I N c sc fl c' && chkB a sc fl a' && chkB b sc fl b'
    | _ => false
  | .for_ t it b, sc, fl, s => match s with
    | .For tg it' b' [] _ => noSet it' && chkTg N sc fl t tg && chkI I N it sc fl tg it' && chkB b sc fl b'
    | _ => false
  | .while_ c b, sc, fl, s => match s with
    | .While c' b' [] _ => tOk c && chk I N c sc fl c' && chkB b sc fl b'
    | _ => false
  | .ret e, sc, fl, s => match s with
    | .Return (some x) _ => chk I N e sc fl x
    | _ => false
  | .retN, _, _, s => match s with
    | .Return none _ => true
    | _ => false
  | .pass, _, _, s => match s with
    | .Pass _ => true
    | .Expr (.Constant (.str _) _ _) _ => true
    | _ => false
  | .brk, _, _, s => match s with
    | .Break _ => true
    | _ => false
  | .cont, _, _, s => match s with
    | .Continue _ => true
    | _ => false
  | .never, _, _, _ => true
  | _, _, _, _ => false
def chkB : Sm → Scope → Option Scope → List Stmt → Bool
  | .nil, _, _, ss => ss.isEmpty
  | .cons (.frz _) b, sc, fl, ss => chkB b sc fl ss
  | .cons a b, sc, fl, ss => match ss with
    | s :: r => chkS a sc fl s && chkB b sc fl r
    | [] => false
  | _, _, _, _ => false
end
end
theorem asg_sub {i : Expr} (h : noSlice i = true) (o : Expr) (pos : Pos) (env : Env) (v : Value) : assign (.Subscript o i pos) env v = (do
      let ov ← holding [v] (eval o env)
      let iv ← holding [v, ov] (eval i env)
      standAt pos
      holding [v, ov, iv] (setItem ov iv v)
      release [v, ov, iv] []) := by
  cases i <;> first | rfl | cases h
theorem tS_of {G : Gm} {σ : L2.St} {H : Hp} {D : Ends} {f g : Rho → Option Fl} (e : ∀ ρ, f ρ = g ρ) (h : tS G f D σ H) : tS G g D σ H := by
  have : f = g := funext e
  rw [← this]; exact h
theorem PSs.weak {X : Cx} {e : List Stmt} {t t' : TS} (h : PSs X e t) (w : ∀ D σ H, t' D σ H → t D σ H) : PSs X e t' := ⟨fun pins s σ H D I q => h.run pins s σ H D I (w D σ H q)⟩
theorem PS.or {X : Cx} {e : Stmt} {t u : TS} (h : PS X e t) (k : PS X e u) : PS X e fun D σ H => t D σ H ∨ u D σ H := ⟨fun pins s σ H D I q => q.elim (h.run pins s σ H D I) (k.run pins s σ H D I)⟩
section
variable {G : Gm} {I : Inf} {c : Str → List PyData → Option PyData} {n : Nat}
theorem name_ok {X : Cx} {N : List Str} {sc : Scope} {fl : Option Scope} {i : Nat} {y : Str} (h : XOk G I c X N sc fl) (k : nameB N sc i y = true) (p : Pos) : PE X (.Name y p) (tVar i) := by
  unfold nameB at k
  simp only [Bool.and_eq_true, decide_eq_true_eq] at k
  obtain ⟨n1, n2, _⟩ := nm_dbg k.2
  exact pe_var (by rw [h.nm]; exact k.1.1) (h.vis k.1.2) n1 n2
theorem few1 {x : Expr} (h : noStar x = true) (cpos : Pos) (env : Env) : ((backTo cpos (starEach [x] env)).all (fun x => !x.1) && (backToKw cpos (keywordEach [] env)).all (fun x => x.1.isSome)
      && decide (([x] : List Expr).length + ([] : List Keyword).length + (if ([] : List Keyword).isEmpty then 0 else 1) < 30)) = true := by
  rw [star1 h]; rfl
mutual
theorem chkS_ok : ∀ (s : Sm) {X : Cx} {N : List Str} {sc : Scope} {fl : Option Scope} {st : Stmt}, XOk G I c X N sc fl → X.xe = (fun _ _ => False) → chkS I N s sc fl st = true → PS X st (tS G (evS (glI I) c n s))
  | .app i e, X, N, sc, fl, st, h, hx, k => by
    unfold chkS at k
    split at k
    · simp only [Bool.and_eq_true, decide_eq_true_eq] at k
      obtain ⟨⟨⟨⟨k1, m⟩, ln⟩, s1⟩, k2⟩ := k
      subst m
      exact PS.weak (ps_expr (pe_bm PySem.F.plainAttrs_list PySem.F.slot_list_append PySem.F.type_list_append mt_append (name_ok h k1 _) (pa_cons (chk_ok e h k2) pa_nil (star1 s1 _ _)) rfl (few1 s1 _ _) ln (star1 s1 _ _) rfl)) fun D σ H q => s_app (tS_of (fun ρ => by rw [evS]) q)
    · cases k
  | .ext i e, X, N, sc, fl, st, h, hx, k => by
    unfold chkS at k
    split at k
    · simp only [Bool.and_eq_true, decide_eq_true_eq] at k
      obtain ⟨⟨⟨⟨k1, m⟩, ln⟩, s1⟩, k2⟩ := k
      subst m
      exact PS.weak (ps_expr (pe_bm PySem.F.plainAttrs_list PySem.F.slot_list_extend PySem.F.type_list_extend mt_extend (name_ok h k1 _) (pa_cons (chk_ok e h k2) pa_nil (star1 s1 _ _)) rfl (few1 s1 _ _) ln (star1 s1 _ _) rfl)) fun D σ H q => s_ext (tS_of (fun ρ => by rw [evS]) q)
    · cases k
  | .drop e, X, N, sc, fl, st, h, hx, k => by
    unfold chkS at k
    split at k
    · simp only [Bool.and_eq_true] at k
      exact PS.weak (ps_expr (chk_ok e h k.2) (swap_call k.1 _ _)) fun D σ H q => s_drop (tS_of (fun ρ => by rw [evS]) q)
    · cases k
  | .set i e, X, N, sc, fl, st, h, hx, k => by
    unfold chkS at k
    split at k
    · rename_i y p x pos
      simp only [Bool.and_eq_true, decide_eq_true_eq] at k
      obtain ⟨⟨⟨⟨k1, k2⟩, k3⟩, k4⟩, k5⟩ := k
      obtain ⟨l1, l2⟩ := h.loc k2
      have hN : X.N.Nodup := by rw [h.nm]; exact h.nd
      have hi : X.N[i]? = some y := by rw [h.nm]; exact k1
      have hs := swap_name h.sc x y p pos.line
      have main : ∀ {t : TE}, PE X x t → (swB sc y p x = false) → PS X (.Assign [.Name y p] x pos) (tAsg t (gName i)) := fun hp z => ps_set hN hi l1 hp (by rw [hs, z]) l2
      cases hz : swB sc y p x with
      | false =>
        by_cases hv : ∃ j, e = .var j
        · obtain ⟨j, rfl⟩ := hv
          have kv := k4
          unfold chk at kv
          split at kv
          · simp only [Bool.and_eq_true, decide_eq_true_eq] at kv
            obtain ⟨n1, n2, _⟩ := nm_dbg kv.2
            have pv : PE X _ (tVar j) := pe_var (pos := ‹Pos›) (by rw [h.nm]; exact kv.1.1) (h.vis kv.1.2) n1 n2
            refine PS.weak (PS.or (main (chk_ok (.var j) h k4) hz) (main (pe_var (by rw [h.nm]; exact kv.1.1) (h.vis kv.1.2) n1 n2) hz)) fun D σ H q => ?_
            have q2 := s_set (e := some j) (f := ev (glI I) c (.var j)) (i := i) (fun j' e' => by cases e'; funext ρ; rw [ev] <;> rfl) (tS_of (fun ρ => by rw [evS] <;> rfl) q)
            rcases q2 with q2 | ⟨j', e', q2⟩
            · exact .inl q2
            · cases e'; exact .inr q2
          · cases kv
        · have hvo : varOf e = none := by
            cases e <;> first | rfl | exact absurd ⟨_, rfl⟩ hv
          refine PS.weak (main (chk_ok e h k4) hz) fun D σ H q => ?_
          have q2 := s_set (e := none) (f := ev (glI I) c e) (i := i) (fun j' e' => by cases e') (tS_of (fun ρ => by rw [evS, hvo]) q)
          rcases q2 with q2 | ⟨j', e', q2⟩
          · exact q2
          · cases e'
      | true =>
        rw [hz] at k5 hs
        simp only [Bool.not_true, Bool.false_or, beq_iff_eq] at k5
        match e, k4 with
        | .comp elt tg it cond own, k4 =>
          unfold chk at k4
          split at k4
          · simp only [Bool.and_eq_true] at k4
            obtain ⟨⟨⟨⟨⟨⟨⟨ns, b⟩, pl⟩, ki⟩, kt⟩, tk⟩, kc⟩, ke⟩ := k4
            have pi := chkI_ok it h ki
            have hp : ∀ i ∈ plT tg, i ∈ own.map (·.2) := fun i hi => by
              have := List.all_eq_true.mp pl i hi
              rw [List.any_eq_true] at this
              obtain ⟨j, h1, h2⟩ := this
              rw [← of_decide_eq_true h2]; exact h1
            refine PS.weak (ps_setLc (g := gT X.K tg) (tt := tT G (evC (glI I) c cond)) (te := tX G (ev (glI I) c elt)) h.calm hN hi (by rw [h.sc]; exact k5) hs pi (blk_ok h b) (fun s H C cl fp => chkTg_ok (h.blk s H C cl fp) tg kt) (fun s H C cl fp => chkC_ok cond (h.blk s H C cl fp) tk kc) (fun s H C cl fp => chk_ok elt (h.blk s H C cl fp) ke) (fun v => fold1 ns _ v)) fun D σ H q => ?_
            have q2 := s_set (e := none) (f := ev (glI I) c (.comp elt tg it cond own)) (i := i) (fun j' e' => by cases e') (tS_of (fun ρ => by rw [evS] <;> rfl) q)
            rcases q2 with q2 | ⟨j', e', q2⟩
            · rw [← h.K]
              exact x_comp hp (tX_of (fun ρ => by rw [ev]) q2)
            · cases e'
          · cases k4
        | .non, k4 | .bl _, k4 | .int _, k4 | .str _, k4 | .var _, k4 | .glob _, k4 | .bin _ _ _, k4 | .neg _, k4 | .tup _, k4 | .lst _, k4 | .idx _ _, k4 | .sl _ _ _, k4 | .sset _, k4 | .rng _ _ _, k4 | .call _ _, k4 | .blt _ _, k4 | .isi _ _, k4 | .dis _, k4 | .dget _ _ _, k4
        | .cmp _ _ _, k4 | .isN _, k4 | .notN _, k4 | .chain _ _ _ _ _, k4 | .and_ _, k4 | .or_ _, k4 | .not_ _, k4 | .ite _ _ _, k4 =>
          unfold chk at k4
          split at k4 <;> first | (cases k4; done) | (cases hz; done)
        | .no, k4 | .rev _, k4 | .callv _ _, k4 | .dcomp _ _ _ _ _ _, k4 => simp [chk] at k4
    · cases k
  | .setT t e, X, N, sc, fl, st, h, hx, k => by
    unfold chkS at k
    split at k
    · rename_i tg x pos
      simp only [Bool.and_eq_true, Bool.or_eq_true, Bool.not_eq_true'] at k
      obtain ⟨⟨⟨it, k1⟩, k2⟩, k3⟩ := k
      have hn : isName tg = false := by cases tg <;> first | rfl | cases it
      have hns : noStar tg = true := by cases tg <;> first | rfl | cases it
      have hw : swappedStores [tg] x X.env = pure none := by
        rcases k3 with k3 | k3
        · exact stores_none (.inl k3) _
        · split at k3
          · exact stores_tup h.sc (of_decide_eq_true k3)
          · cases k3
      refine PS.weak (ps_asg (chk_ok e h k2) (chkTg_ok h t k1) (swap_sole hn _ _ _) hw (by rw [asg1 hns]; rfl)) fun D σ H q => ?_
      rw [← h.K]
      exact s_setT (tS_of (fun ρ => by rw [evS]) q)
    · cases k
  | .par i j a b, X, N, sc, fl, st, h, hx, k => by
    unfold chkS at k
    split at k
    · simp only [Bool.and_eq_true, decide_eq_true_eq, beq_iff_eq] at k
      obtain ⟨⟨⟨⟨⟨⟨⟨⟨⟨k1, k2⟩, k3⟩, k4⟩, k5⟩, k6⟩, s1⟩, s2⟩, k7⟩, k8⟩ := k
      exact PS.weak (ps_par h.calm (by rw [h.nm]; exact h.nd) (by rw [h.nm]; exact k1) (by rw [h.nm]; exact k2) k3 (by rw [h.sc]; exact k4) (by rw [h.sc]; exact k5) (pa_cons (chk_ok a h k7) (pa_cons (chk_ok b h k8) pa_nil (star1 s2 _ _)) (star1 s1 _ _)) (stores_tup h.sc k6) (swap_sole rfl _ _ _)) fun D σ H q => s_par (tS_of (fun ρ => by rw [evS]) q)
    · cases k
  | .aug i o e, X, N, sc, fl, st, h, hx, k => by
    unfold chkS at k
    split at k
    · simp only [Bool.and_eq_true, decide_eq_true_eq] at k
      obtain ⟨⟨⟨⟨k1, k2⟩, k3⟩, k4⟩, k5⟩ := k
      subst k3
      obtain ⟨l1, l2⟩ := h.loc k2
      have hN : X.N.Nodup := by rw [h.nm]; exact h.nd
      cases o with
      | add => exact PS.weak (ps_aug hN (by rw [h.nm]; exact k1) l1 (chk_ok e h k5) ip_add l2) fun D σ H q => s_aug (o := .add) rfl (tS_of (fun ρ => by rw [evS]) q)
      | sub => exact PS.weak (ps_aug hN (by rw [h.nm]; exact k1) l1 (chk_ok e h k5) ip_sub l2) fun D σ H q => s_aug (o := .sub) rfl (tS_of (fun ρ => by rw [evS]) q)
      | _ => cases k4
    · cases k
  | .put i k' v, X, N, sc, fl, st, h, hx, k => by
    unfold chkS at k
    split at k
    · simp only [Bool.and_eq_true] at k
      obtain ⟨⟨⟨k1, k2⟩, k3⟩, k4⟩ := k
      exact PS.weak (ps_asg (chk_ok v h k4) (pg_sub (name_ok h k1 _) (chk_ok k' h k3) (set_put (by have := h.un; omega)) (fun v => asg_sub k2 _ _ _ v)) (swap_sole rfl _ _ _) (stores_none (.inr ⟨rfl, rfl⟩) _) rfl) fun D σ H q => s_put (tS_of (fun ρ => by rw [evS]) q)
    · cases k
  | .ite t a b, X, N, sc, fl, st, h, hx, k => by
    unfold chkS at k
    split at k
    · simp only [Bool.and_eq_true] at k
      obtain ⟨⟨⟨t1, k1⟩, k2⟩, k3⟩ := k
      exact PS.weak (ps_if (chk_t t h t1 k1) (chkB_ok a h hx k2) (chkB_ok b h hx k3)) fun D σ H q => s_ifS (tS_of (fun ρ => by rw [evS]) q)
    · cases k
  | .for_ t it b, X, N, sc, fl, st, h, hx, k => by
    unfold chkS at k
    split at k
    · simp only [Bool.and_eq_true] at k
      obtain ⟨⟨⟨ns, k1⟩, k2⟩, k3⟩ := k
      refine PS.weak (ps_for (by rw [hx]; exact PassesOwn.never) h.calm (chkI_ok it h k2) (chkTg_ok h t k1) (chkB_ok b h hx k3) (fun v => fold1 ns _ v)) fun D σ H q => ?_
      rw [← h.K]
      exact s_for (tS_of (fun ρ => by rw [evS]) q)
    · cases k
  | .while_ t b, X, N, sc, fl, st, h, hx, k => by
    unfold chkS at k
    split at k
    · simp only [Bool.and_eq_true] at k
      obtain ⟨⟨t1, k1⟩, k2⟩ := k
      exact PS.weak (ps_while (by rw [hx]; exact PassesOwn.never) (chk_t t h t1 k1) (chkB_ok b h hx k2)) fun D σ H q => s_while (tS_of (fun ρ => by rw [evS]) q)
    · cases k
  | .ret e, X, N, sc, fl, st, h, hx, k => by
    unfold chkS at k
    split at k
    · exact PS.weak (ps_ret (chk_ok e h k)) fun D σ H q => s_ret (tS_of (fun ρ => by rw [evS]) q)
    · cases k
  | .retN, X, N, sc, fl, st, h, hx, k => by
    unfold chkS at k
    split at k
    · exact PS.weak ps_retN fun D σ H q => s_retN (tS_of (fun ρ => by rw [evS]) q)
    · cases k
  | .pass, X, N, sc, fl, st, h, hx, k => by
    unfold chkS at k
    split at k
    · exact PS.weak ps_pass fun D σ H q => s_next (tS_of (fun ρ => by rw [evS]) q)
    · exact PS.weak ps_doc fun D σ H q => s_next (tS_of (fun ρ => by rw [evS]) q)
    · cases k
  | .brk, X, N, sc, fl, st, h, hx, k => by
    unfold chkS at k
    split at k
    · exact PS.weak ps_break fun D σ H q => s_brk (tS_of (fun ρ => by rw [evS]) q)
    · cases k
  | .cont, X, N, sc, fl, st, h, hx, k => by
    unfold chkS at k
    split at k
    · exact PS.weak ps_continue fun D σ H q => s_cont (tS_of (fun ρ => by rw [evS]) q)
    · cases k
  | .never, X, N, sc, fl, st, h, hx, k => PS.weak ps_never fun D σ H q => s_never (tS_of (fun ρ => by rw [evS]) q)
  | .frz _, X, N, sc, fl, st, h, hx, k => by simp [chkS] at k
  | .augPut _ _ _ _, X, N, sc, fl, st, h, hx, k => by simp [chkS] at k
  | .nil, X, N, sc, fl, st, h, hx, k => by simp [chkS] at k
  | .cons _ _, X, N, sc, fl, st, h, hx, k => by simp [chkS] at k
theorem chkB_ok : ∀ (s : Sm) {X : Cx} {N : List Str} {sc : Scope} {fl : Option Scope} {ss : List Stmt}, XOk G I c X N sc fl → X.xe = (fun _ _ => False) → chkB I N s sc fl ss = true → PSs X ss (tS G (evS (glI I) c n s))
  | .nil, X, N, sc, fl, ss, h, hx, k => by
    unfold chkB at k
    cases ss with
    | nil => exact PSs.weak pss_nil fun D σ H q => s_next (tS_of (fun ρ => by rw [evS]) q)
    | cons _ _ => cases k
  | .cons a b, X, N, sc, fl, ss, h, hx, k => by
    by_cases hf : ∃ is, a = .frz is
    · obtain ⟨is, rfl⟩ := hf
      unfold chkB at k
      exact PSs.weak (chkB_ok b h hx k) fun D σ H q => s_frz (fun D σ H q => q) (tS_of (fun ρ => by rw [evS, evS]) q)
    · cases ss with
      | nil => cases a <;> first | exact absurd ⟨_, rfl⟩ hf | (unfold chkB at k; cases k)
      | cons s r =>
        have k' : (chkS I N a sc fl s && chkB I N b sc fl r) = true := by
          cases a <;> first | exact absurd ⟨_, rfl⟩ hf | (unfold chkB at k; exact k)
        simp only [Bool.and_eq_true] at k'
        exact PSs.weak (pss_cons (chkS_ok a h hx k'.1) (chkB_ok b h hx k'.2)) fun D σ H q => s_seq (tS_of (fun ρ => by rw [evS]) q)
  | .frz _, X, N, sc, fl, ss, h, hx, k => by simp [chkB] at k
  | .app _ _, X, N, sc, fl, ss, h, hx, k => by simp [chkB] at k
  | .drop _, X, N, sc, fl, ss, h, hx, k => by simp [chkB] at k
  | .ext _ _, X, N, sc, fl, ss, h, hx, k => by simp [chkB] at k
  | .set _ _, X, N, sc, fl, ss, h, hx, k => by simp [chkB] at k
  | .setT _ _, X, N, sc, fl, ss, h, hx, k => by simp [chkB] at k
  | .par _ _ _ _, X, N, sc, fl, ss, h, hx, k => by simp [chkB] at k
  | .aug _ _ _, X, N, sc, fl, ss, h, hx, k => by simp [chkB] at k
  | .put _ _ _, X, N, sc, fl, ss, h, hx, k => by simp [chkB] at k
  | .augPut _ _ _ _, X, N, sc, fl, ss, h, hx, k => by simp [chkB] at k
  | .ite _ _ _, X, N, sc, fl, ss, h, hx, k => by simp [chkB] at k
  | .for_ _ _ _, X, N, sc, fl, ss, h, hx, k => by simp [chkB] at k
  | .while_ _ _, X, N, sc, fl, ss, h, hx, k => by simp [chkB] at k
  | .ret _, X, N, sc, fl, ss, h, hx, k => by simp [chkB] at k
  | .retN, X, N, sc, fl, ss, h, hx, k => by simp [chkB] at k
  | .pass, X, N, sc, fl, ss, h, hx, k => by simp [chkB] at k
  | .brk, X, N, sc, fl, ss, h, hx, k => by simp [chkB] at k
  | .cont, X, N, sc, fl, ss, h, hx, k => by simp [chkB] at k
  | .never, X, N, sc, fl, ss, h, hx, k => by simp [chkB] at k
end
end
end Bw

namespace Bw
open PySem PySem.Spec PyProof.Rows L2
/-! a table of defs -/
structure Df where
  np : Nat            -- parameters
  nn : Nat            -- slots
  body : Sm
def run1 (gl : Str → Option PyData) (c : Str → List PyData → Option PyData) (fuel : Nat) (d : Df) (ds : List PyData) : Option PyData :=
  if ds.length = d.np then match evS gl c fuel d.body (ds.map (fun x => some (false, x)) ++ List.replicate (d.nn - d.np) none) with
    | some (.rt r) => some r
    | some (.nx _) => some .none
    | _ => none
  else none
def callN (gl : Str → Option PyData) (fuel : Nat) (tab : List (Str × Df)) : Nat → Str → List PyData → Option PyData
  | 0, _, _ => none
  | k + 1, f, ds => match tab.lookup f with
    | some d => run1 gl (callN gl fuel tab k) fuel d ds
    | none => none
/-- a def of the text -/
structure Tx where
  name : Str
  st : Stmt
  N : List Str
  ps : List Str
  body : Sm
def Tx.df (t : Tx) : Df := ⟨t.ps.length, t.N.length, t.body⟩
/-- what is checked of a def -/
def Tx.ok (I : Inf) (t : Tx) : Bool :=
  (L2.defScope t.st).kind == .function && !(L2.defScope t.st).isCoroutine && !(L2.defScope t.st).isGenerator && decide t.N.Nodup && decide (t.N.take t.ps.length = t.ps) &&
    t.ps.all (fun x => (L2.defScope t.st).names.lookup x == some .local || (L2.defScope t.st).names.lookup x == some .cell) && (L2.defScope t.st).names.all (fun y => !(y.2 == .free)) &&
    chkB I t.N t.body (L2.defScope t.st) none (L2.defBody t.st)
theorem Tx.scope {I : Inf} {t : Tx} (h : t.ok I = true) : FnScope t.N t.ps (L2.defScope t.st) ∧ chkB I t.N t.body (L2.defScope t.st) none (L2.defBody t.st) = true := by
  unfold Tx.ok at h
  simp only [Bool.and_eq_true, beq_iff_eq, Bool.not_eq_true', decide_eq_true_eq] at h
  obtain ⟨⟨⟨⟨⟨⟨⟨h1, h2⟩, h3⟩, h4⟩, h5⟩, h6⟩, h7⟩, h8⟩ := h
  refine ⟨⟨h1, h2, h3, h4, h5, fun x hx => ?_, fun y hy e => ?_⟩, h8⟩
  · have := List.all_eq_true.mp h6 x hx
    simpa using this
  · have := List.all_eq_true.mp h7 y hy
    simp [e] at this
theorem start_ok {G : Gm} {Hf H : Hp} (hs : Sub Hf H) {N : List Str} {ds : List PyData} {vs : List V} (r : RpL G Hf ds vs) : Fr G Hf H Hf H (L2.start N vs) (ds.map (fun x => some (false, x)) ++ List.replicate (N.length - ds.length) none) where
  gr := Gr.refl hs
  sb := hs
  ow := fun i d p h1 h2 => by
    exfalso
    by_cases hi : i < (ds.map (fun x => some (false, x))).length
    · rw [List.getElem?_append_left hi, List.getElem?_map] at h1
      cases h : ds[i]? with
      | none => rw [h] at h1; cases h1
      | some d' => rw [h] at h1; cases h1
    · rw [List.getElem?_append_right (by omega), List.getElem?_replicate] at h1
      split at h1 <;> cases h1
  sl :=
    { sub := hs
      len := by
        unfold L2.start
        rw [List.length_append, List.length_append, List.length_map, List.length_map, List.length_replicate, List.length_replicate, r.length]
      fz := fun i d h1 => by
        by_cases hi : i < (ds.map (fun x => (some (false, x) : Option (Bool × PyData)))).length
        · rw [List.getElem?_append_left hi, List.getElem?_map] at h1
          cases h : ds[i]? with
          | none => rw [h] at h1; cases h1
          | some d' =>
            rw [h] at h1
            cases h1
            obtain ⟨v, hv, rv⟩ := r.get h
            refine ⟨v, ?_, rv⟩
            unfold L2.start
            rw [List.getElem?_append_left (by rw [List.length_map, r.length]; simpa using hi), List.getElem?_map, hv]; rfl
        · rw [List.getElem?_append_right (by omega), List.getElem?_replicate] at h1
          split at h1 <;> cases h1
      ow := fun i d h1 => by
        exfalso
        by_cases hi : i < (ds.map (fun x => some (false, x))).length
        · rw [List.getElem?_append_left hi, List.getElem?_map] at h1
          cases h : ds[i]? with
          | none => rw [h] at h1; cases h1
          | some d' => rw [h] at h1; cases h1
        · rw [List.getElem?_append_right (by omega), List.getElem?_replicate] at h1
          split at h1 <;> cases h1
      inj := fun i j d e p h1 h2 h3 h4 => by
        exfalso
        by_cases hi : i < (ds.map (fun x => some (false, x))).length
        · rw [List.getElem?_append_left hi, List.getElem?_map] at h1
          cases h : ds[i]? with
          | none => rw [h] at h1; cases h1
          | some d' => rw [h] at h1; cases h1
        · rw [List.getElem?_append_right (by omega), List.getElem?_replicate] at h1
          split at h1 <;> cases h1 }
abbrev tabOf (T : List Tx) : List (Str × Df) := T.map fun t => (t.name, t.df)
/-- the facts that the head gives -/
structure TabOk (G : Gm) (I : Inf) (T : List Tx) (mg : Str → Option Value) : Prop where
  fr : ∀ x, isFree I x = true → mg x = none
  gl : ∀ x d, I.gls.lookup x = some d → ∃ v u, mg x = some u ∧ RelV v u ∧ ∀ Hf, Rp G Hf d v
  fu : ∀ f n, I.fns.lookup f = some n → ∃ t : Tx, (tabOf T).lookup f = some t.df ∧ t.ps.length = n ∧ t.ok I = true ∧ ∃ a fd, FunD G.K t.name t.name (L2.defArgs t.st) (L2.defBody t.st) (L2.defScope t.st) [] [] a fd ∧ mg f = some (.ref a) ∧ Binds G.K fd t.ps []
theorem fn_ok {P : Program} {w : World} {G : Gm} {I : Inf} {T : List Tx} {mg : Str → Option Value} {base : Heap} {fuel k : Nat} {t : Tx} {f : Str} {a : Addr} {fd : FuncData} (ok : TabOk G I T mg)
    (ih : ∀ f n, I.fns.lookup f = some n → ∃ a fd ps, FnOk P w G.K mg base L2.CX0 k a fd ps (spD G n (callN (glI I) fuel (tabOf T) k f)) ∧ mg f = some (.ref a) ∧ PySem.W.keepIn G.K (.ref a) = true ∧ Binds G.K fd ps [])
    (hl : (tabOf T).lookup f = some t.df) (ht : t.ok I = true) (F : FunD G.K t.name t.name (L2.defArgs t.st) (L2.defBody t.st) (L2.defScope t.st) [] [] a fd) : FnOk P w G.K mg base L2.CX0 (k + 1) a fd t.ps (spD G t.ps.length (callN (glI I) fuel (tabOf T) (k + 1) f)) := by
  obtain ⟨S, cb⟩ := Tx.scope ht
  refine F.ok S (fun vs H Q E h => h.1) fun cdv A outer s H vs Q E hr h => ?_
  refine ⟨tS G (evS (glI I) (callN (glI I) fuel (tabOf T) k) fuel t.body), PSs.nox (chkB_ok t.body (N := t.N) (sc := L2.defScope t.st) (fl := none) ?_ rfl cb), ?_⟩
  · exact
      { K := rfl
        calm := rfl
        nm := rfl
        nd := S.nd
        un := by have := hr.un; show (A.deeper _).units + 66 < _; omega
        sc := rfl
        fn := fun _ _ => rfl
        fr := ok.fr
        gl := ok.gl
        fu := fun f n hn => by
          obtain ⟨a, fd, ps, h1, h2, h3, h4⟩ := ih f n hn
          exact ⟨k, a, fd, ps, h1, hr, h2, h3, h4⟩ }
  · obtain ⟨hn, Hf, ds, d, hs, r, e, q⟩ := h
    unfold callN at e
    rw [hl] at e
    dsimp only at e
    unfold run1 at e
    split at e
    · have st := start_ok (N := t.N) hs r
      rw [show t.df.nn - t.df.np = t.N.length - ds.length by rw [show t.df.nn = t.N.length from rfl, show ds.length = t.df.np by assumption]] at e
      split at e
      · rename_i d' he
        cases e
        exact ⟨Hf, H, Hf, _, _, st, he, fun v Hf' H' g rp => q v Hf' H' g rp⟩
      · rename_i ρ' he
        cases e
        exact ⟨Hf, H, Hf, _, _, st, he, fun σ' Hf' H' F' m => q .non Hf' H' F'.gr rp_non⟩
      · cases e
    · cases e
theorem fns_ok {P : Program} {w : World} {G : Gm} {I : Inf} {T : List Tx} {mg : Str → Option Value} {base : Heap} {fuel : Nat} (ok : TabOk G I T mg) : ∀ (k : Nat) (f : Str) (n : Nat), I.fns.lookup f = some n →
    ∃ a fd ps, FnOk P w G.K mg base L2.CX0 k a fd ps (spD G n (callN (glI I) fuel (tabOf T) k f)) ∧ mg f = some (.ref a) ∧ PySem.W.keepIn G.K (.ref a) = true ∧ Binds G.K fd ps []
  | 0, f, n, hn => by
    obtain ⟨t, hl, hp, ht, a, fd, F, hm, hb⟩ := ok.fu f n hn
    refine ⟨a, fd, t.ps, ⟨fun vs H Q E h => by rw [h.1, hp], fun A outer s H args us vs Q E hr e0 hb hv h => ?_⟩, hm, F.kp, hb⟩
    obtain ⟨_, Hf, ds, d, _, _, e, _⟩ := h
    cases e
  | k + 1, f, n, hn => by
    obtain ⟨t, hl, hp, ht, a, fd, F, hm, hb⟩ := ok.fu f n hn
    subst hp
    exact ⟨a, fd, t.ps, fn_ok ok (fun f n hn => fns_ok ok k f n hn) hl ht F, hm, F.kp, hb⟩
end Bw

namespace Bw
open PySem PySem.Spec PyProof.Rows L2
/-! the top: from what it says of the defs to the table's facts -/
def BindT (t : Tx) : Prop := ∀ (kV doc pm : Value) (an : Option Addr) (cdv ct : Value) (us : List Value), us.length = t.ps.length →
  bindArgs (PySem.W.fnOf t.name t.name (L2.defArgs t.st) (L2.defBody t.st) (L2.defScope t.st) .none kV doc pm an cdv ct) ⟨us, []⟩ = pure (t.ps.zip us)
def AllB : List Tx → Prop
  | [] => True
  | t :: r => BindT t ∧ AllB r
theorem AllB.of : ∀ {T : List Tx}, AllB T → ∀ t ∈ T, BindT t
  | [], _, t, h => by cases h
  | a :: r, hb, t, h => by
    rcases List.mem_cons.mp h with e | e
    · subst e; exact hb.1
    · exact AllB.of hb.2 t e
def glF : Str × PyData → He.Fa
  | (x, .int i) => .int x i
  | (x, .str z) => .str x z
  | (x, _) => .free x
def glsB (I : Inf) : Bool := I.gls.all fun p => match p.2 with
  | .int _ => true
  | .str _ => true
  | _ => false
def faOf (I : Inf) (T : List Tx) : List He.Fa := T.map (fun t => .glo t.name) ++ (I.frees.map .free ++ I.gls.map glF)
def dfOf (t : Tx) : He.DefD := ⟨(t.name, none), t.name, t.name, L2.defArgs t.st, L2.defBody t.st, L2.defScope t.st, [], []⟩
def fnsOf (T : List Tx) : List He.DefD := T.map dfOf
theorem lookup_find {α β : Type} (g : Tx → β) (f : Str) : ∀ T : List Tx, (T.map fun t => (t.name, g t)).lookup f = (T.find? fun t => f == t.name).map g
  | [] => rfl
  | t :: r => by
    rw [List.map_cons, List.lookup_cons, List.find?_cons]
    cases f == t.name with
    | true => rfl
    | false => exact lookup_find (α := α) g f r
theorem lookup_mem' {β : Type} : ∀ {l : List (Str × β)} {x : Str} {d : β}, l.lookup x = some d → (x, d) ∈ l
  | [], _, _, h => by cases h
  | (y, e) :: r, x, d, h => by
    rw [List.lookup_cons] at h
    cases q : x == y with
    | true =>
      rw [q] at h
      cases h
      rw [eq_of_beq q]
      exact List.mem_cons_self ..
    | false =>
      rw [q] at h
      exact List.mem_cons_of_mem _ (lookup_mem' h)
section
variable {I : Inf} {T : List Tx} {K : PySem.W.Frag} {h : Heap} {mg : Str → Option Value}
theorem says_fact {fa : List He.Fa} {fn : List He.DefD} (c : He.SaysD fa fn K) {f : He.Fa} (hf : f ∈ fa) : f.ok K = true := by
  obtain ⟨i, hi⟩ := List.getElem?_of_mem hf
  exact c.fact i hi
abbrev Gk (K : PySem.W.Frag) : Gm := ⟨K, fun x => some (He.ga K x)⟩
theorem tab_ok (KX : K.In h) (GN : h.Ns mainGlobals mg) (c : He.SaysD (faOf I T) (fnsOf T) K) (hb : AllB T) (hok : T.all (fun t => t.ok I) = true) (hI : I.fns = T.map fun t => (t.name, t.ps.length)) (hg : glsB I = true) : TabOk (Gk K) I T mg where
  fr := fun x hx => by
    unfold isFree at hx
    rw [List.any_eq_true] at hx
    obtain ⟨y, hy, e⟩ := hx
    obtain rfl := of_decide_eq_true e
    exact He.free_ok KX GN (says_fact c (List.mem_append_right _ (List.mem_append_left _ (List.mem_map_of_mem (f := He.Fa.free) hy))))
  gl := fun x d hx => by
    have hm := lookup_mem' hx
    have hk := List.all_eq_true.mp hg _ hm
    have hf := says_fact c (List.mem_append_right _ (List.mem_append_right _ (List.mem_map_of_mem (f := glF) hm)))
    cases d with
    | int i =>
      obtain ⟨t, ht⟩ := He.int_ok KX GN hf
      exact ⟨.int i, _, ht, ⟨t, rfl⟩, fun _ => rp_int⟩
    | str z =>
      obtain ⟨t, ht⟩ := He.str_ok KX GN hf
      exact ⟨.str z, _, ht, ⟨t, rfl⟩, fun _ => rp_str⟩
    | _ => cases hk
  fu := fun f n hn => by
    rw [hI, lookup_find (α := Unit)] at hn
    obtain ⟨t, ht, hl⟩ := Option.map_eq_some_iff.mp hn
    have hm := List.mem_of_find?_eq_some ht
    have he := List.find?_some ht
    have e : f = t.name := eq_of_beq he
    subst e
    obtain ⟨i, hi⟩ := List.getElem?_of_mem (List.mem_map_of_mem (f := dfOf) hm)
    obtain ⟨fd, F⟩ := c.def_ i hi
    refine ⟨t, ?_, hl, List.all_eq_true.mp hok t hm, _, fd, F, He.glo_ok KX GN (says_fact c (List.mem_append_left _ (List.mem_map_of_mem (f := fun t : Tx => He.Fa.glo t.name) hm))), FunD.bindsN F (hb.of t hm)⟩
    rw [tabOf, lookup_find (α := Unit), ht]; rfl
theorem law_ok {P : Program} {w : World} {fuel k : Nat} {t : Tx} (KX : K.In h) (GN : h.Ns mainGlobals mg) (c : He.SaysD (faOf I T) (fnsOf T) K) (hb : AllB T) (hok : T.all (fun t => t.ok I) = true) (hI : I.fns = T.map fun t => (t.name, t.ps.length)) (hg : glsB I = true)
    (hl : I.fns.lookup ("law" : Str) = some 1) (hfind : (T.find? fun t => ("law" : Str) == t.name) = some t) (hps : t.ps = [("script" : Str)])
    {fa : Addr} (hfa : mg ("law" : Str) = some (.ref fa))
    (law : ∀ ns : List Int, ns.length ≤ 63 → callN (glI I) fuel (tabOf T) (k + 1) "law" [lkD ns] = some (.bool true)) :
    ∃ (fd : FuncData) (sp : Sp), (∀ (s : Shared) (u : Value), BindsTo s fd ⟨[u], []⟩ [("script", u)]) ∧ (∀ (H : Hp) (a : Addr) (ns : List Int), ns.length ≤ 63 → L2.SqL K H a (ns.map V.int) → sp [.ref a] H (fun v _ => v = .bl true) fun _ _ _ => False) ∧
      ∀ base : Heap, K.In base → base.Ns mainGlobals mg → FnOk P w K mg base L2.CX0 (k + 1) fa fd ["script"] sp := by
  have ok := tab_ok KX GN c hb hok hI hg
  have hm := List.mem_of_find?_eq_some hfind
  have e : ("law" : Str) = t.name := eq_of_beq (List.find?_some (p := fun t : Tx => ("law" : Str) == t.name) hfind)
  obtain ⟨i, hi⟩ := List.getElem?_of_mem (List.mem_map_of_mem (f := dfOf) hm)
  obtain ⟨fd, F⟩ := c.def_ i hi
  have hg2 := He.glo_ok KX GN (says_fact c (List.mem_append_left _ (List.mem_map_of_mem (f := fun t : Tx => He.Fa.glo t.name) hm)))
  have ea : fa = He.ga K t.name := by
    have := hfa.symm.trans ((congrArg mg e).trans hg2)
    cases this; rfl
  subst ea
  have hlk : (tabOf T).lookup ("law" : Str) = some t.df := by rw [tabOf, lookup_find (α := Unit), hfind]; rfl
  refine ⟨fd, spD (Gk K) 1 (callN (glI I) fuel (tabOf T) (k + 1) "law"), fun s u => ?_, fun H a ns hn hs => ?_, fun base _ _ => ?_⟩
  · have := FunD.bindsA (ps := t.ps) F (hb.of t hm) s [u] (by rw [hps]; rfl)
    rw [hps] at this
    exact this
  · exact ⟨rfl, H, [lkD ns], .bool true, Sub.refl H, RpL.cons (by simp only [lkD, Rp]; exact .inr (.inr ⟨ns, a, rfl, rfl, hs⟩)) RpL.nil, law ns hn, fun v Hf' H' g r => by simpa only [Rp] using r⟩
  · have q := fn_ok (P := P) (w := w) (base := base) (fuel := fuel) (k := k) (f := "law") ok (fun f n hn => fns_ok ok k f n hn) hlk (List.all_eq_true.mp hok t hm) F
    rw [hps] at q
    exact q
end
end Bw

namespace Bw
open PySem PySem.Spec PyProof.Rows
/-! plain tools: what the evaluator does on ints, tuples of ints, dicts of ints -/
def tpI (l : List Int) : PyData := .tuple (l.map .int)
def lI (l : List Int) : PyData := .list (l.map .int)
theorem evS_nx {gl : Str → Option PyData} {c : Str → List PyData → Option PyData} {n : Nat} {a b : Sm} {ρ ρ' : Rho} (h : evS gl c n a ρ = some (.nx ρ')) : evS gl c n (.cons a b) ρ = evS gl c n b ρ' := by
  rw [evS, h]; rfl
theorem evS_rt {gl : Str → Option PyData} {c : Str → List PyData → Option PyData} {n : Nat} {a b : Sm} {ρ : Rho} {d : PyData} (h : evS gl c n a ρ = some (.rt d)) : evS gl c n (.cons a b) ρ = some (.rt d) := by
  rw [evS, h]; rfl
theorem evS_nil {gl : Str → Option PyData} {c : Str → List PyData → Option PyData} {n : Nat} {ρ : Rho} : evS gl c n .nil ρ = some (.nx ρ) := by rw [evS]
/-- a for loop, by what holds ahead of each turn -/
theorem forF_ind {α : Type} {t : Tg} {fb : Rho → Option Fl} (g : α → PyData) (P : List α → Rho → Prop) (step : ∀ x r ρ, P (x :: r) ρ → ∃ ρ1 ρ2, bindT t (g x) ρ = some ρ1 ∧ (fb ρ1 = some (.nx ρ2) ∨ fb ρ1 = some (.ct ρ2)) ∧ P r ρ2) :
    ∀ (l : List α) (ρ : Rho), P l ρ → ∃ ρ', forF (bindT t) fb (l.map g) ρ = some (.nx ρ') ∧ P [] ρ'
  | [], ρ, h => ⟨ρ, rfl, h⟩
  | x :: r, ρ, h => by
    obtain ⟨ρ1, ρ2, h1, h2, h3⟩ := step x r ρ h
    obtain ⟨ρ', h4, h5⟩ := forF_ind g P step r ρ2 h3
    refine ⟨ρ', ?_, h5⟩
    rw [List.map_cons, forF, h1, Option.bind_some]
    rcases h2 with h2 | h2
    · rw [h2, Option.bind_some]; exact h4
    · rw [h2, Option.bind_some]; exact h4
theorem compL_map {α β : Type} {F : PyData → Option (Option PyData)} (g : α → PyData) (h : α → PyData) : ∀ (l : List α), (∀ x ∈ l, F (g x) = some (some (h x))) → compL F (l.map g) = some (l.map h)
  | [], _ => rfl
  | x :: r, k => by
    rw [List.map_cons, compL, k x (List.mem_cons_self ..), Option.bind_some, compL_map (β := β) g h r fun y hy => k y (List.mem_cons_of_mem _ hy)]
    rfl
theorem compL_filter {α : Type} {F : PyData → Option (Option PyData)} (g : α → PyData) (c : α → Bool) (h : α → PyData) : ∀ (l : List α), (∀ x ∈ l, F (g x) = some (if c x = true then some (h x) else none)) → compL F (l.map g) = some ((l.filter c).map h)
  | [], _ => rfl
  | x :: r, k => by
    rw [List.map_cons, compL, k x (List.mem_cons_self ..), Option.bind_some, compL_filter g c h r fun y hy => k y (List.mem_cons_of_mem _ hy)]
    cases hc : c x with
    | true => rw [if_pos rfl, List.filter_cons_of_pos hc]; rfl
    | false => rw [if_neg Bool.false_ne_true, List.filter_cons_of_neg (by rw [hc]; exact Bool.false_ne_true)]; rfl
theorem intsD_map : ∀ l : List Int, intsD (l.map .int) = some l
  | [] => rfl
  | x :: r => by rw [List.map_cons, intsD, intsD_map r]; rfl
theorem boolsD_map : ∀ l : List Bool, boolsD (l.map .bool) = some l
  | [] => rfl
  | x :: r => by rw [List.map_cons, boolsD, boolsD_map r]; rfl
theorem boolsD_mapf {α : Type} (f : α → Bool) : ∀ l : List α, boolsD (l.map fun x => .bool (f x)) = some (l.map f)
  | [] => rfl
  | x :: r => by rw [List.map_cons, boolsD, boolsD_mapf f r]; rfl
theorem intsD_mapf {α : Type} (f : α → Int) : ∀ l : List α, intsD (l.map fun x => .int (f x)) = some (l.map f)
  | [] => rfl
  | x :: r => by rw [List.map_cons, intsD, intsD_mapf f r]; rfl
theorem alikeI (a b : Int) : PySem.W.alike (.int a) (.int b) = true := by simp [PySem.W.alike]
theorem alikeB_int (l : List Int) : alikeB (l.map .int) = true := by
  unfold alikeB
  rw [List.all_eq_true]
  intro x hx
  rw [List.all_eq_true]
  intro y hy
  obtain ⟨a, _, rfl⟩ := List.mem_map.mp hx
  obtain ⟨b, _, rfl⟩ := List.mem_map.mp hy
  exact alikeI a b
theorem sortB_int (l : List Int) (h : l.length ≤ 100000) : sortB (l.map .int) = true := by
  unfold sortB
  simp only [Bool.and_eq_true, Bool.or_eq_true, decide_eq_true_eq, List.length_map]
  refine ⟨⟨⟨alikeB_int l, .inr ?_⟩, ?_⟩, h⟩
  · rw [List.all_eq_true]
    intro x hx
    obtain ⟨a, _, rfl⟩ := List.mem_map.mp hx
    rfl
  · rw [List.all_eq_true]
    intro x hx
    obtain ⟨a, _, rfl⟩ := List.mem_map.mp hx
    simp [PyData.depth]
def srt (l : List Int) : List Int := l.mergeSort fun a b => decide (a ≤ b)
theorem dataLe_int (a b : Int) : PySem.W.dataLe false id (.int a) (.int b) = decide (a ≤ b) := by
  unfold PySem.W.dataLe PySem.W.sortLe
  simp only [cond_false, id]
  show (!PyProof.Rows.lexLt PyProof.Rows.itemOrd (PySem.W.keyToks (.int b)) (PySem.W.keyToks (.int a))) = _
  simp only [PySem.W.keyToks, PyProof.Rows.lexLt, PyProof.Rows.itemLt, Bool.and_false, Bool.or_false]
  by_cases h : a ≤ b
  · simp [h]
  · simp [h]; omega
theorem sortD_int (l : List Int) : sortD (l.map .int) = (srt l).map .int := by
  unfold sortD srt
  exact (List.map_mergeSort (f := PyData.int) fun a _ b _ => (dataLe_int a b).symm).symm
theorem eqvAll_int : ∀ a b : List Int, PyData.eqvAll (a.map .int) (b.map .int) = decide (a = b)
  | [], [] => by simp [PyData.eqvAll]
  | [], _ :: _ => by simp [PyData.eqvAll]
  | _ :: _, [] => by simp [PyData.eqvAll]
  | x :: a, y :: b => by
    rw [List.map_cons, List.map_cons, PyData.eqvAll, eqvAll_int a b, PyData.eqv]
    by_cases h : x = y <;> simp [h]
theorem canLay_int : ∀ a : List Int, PyData.canLayAll0 (a.map .int) = true
  | [] => by simp [PyData.canLayAll0]
  | x :: a => by simp [PyData.canLayAll0, PyData.canLay0, canLay_int a]
theorem depth_int : ∀ a : List Int, PyData.depthAll (a.map .int) ≤ 1
  | [] => by simp [PyData.depthAll]
  | x :: a => by
    have := depth_int a
    simp only [List.map_cons, PyData.depthAll, PyData.depth]
    omega
theorem shaped_int (i : Int) : SeqAt.shaped (.int i) = true := by simp [SeqAt.shaped, PyData.canLay0, PyData.depth]
theorem shaped_tI (a : List Int) : SeqAt.shaped (tpI a) = true := by
  have := depth_int a
  simp only [SeqAt.shaped, tpI, PyData.canLay0, PyData.depth, canLay_int a, Bool.true_and, decide_eq_true_eq]
  omega
theorem cEq_int (a b : Int) : cEq (.int a) (.int b) = some (decide (a = b)) := by
  unfold cEq; rw [if_pos ⟨shaped_int a, shaped_int b⟩, PyData.eqv]; 
  by_cases h : a = b <;> simp [h]
theorem cNe_int (a b : Int) : cNe (.int a) (.int b) = some (decide (a ≠ b)) := by
  unfold cNe; rw [if_pos ⟨shaped_int a, shaped_int b⟩, PyData.eqv]; 
  by_cases h : a = b <;> simp [h]
theorem cEq_tI (a b : List Int) : cEq (tpI a) (tpI b) = some (decide (a = b)) := by
  unfold cEq; rw [if_pos ⟨shaped_tI a, shaped_tI b⟩, tpI, tpI, PyData.eqv, eqvAll_int]
theorem cNe_tI (a b : List Int) : cNe (tpI a) (tpI b) = some (decide (a ≠ b)) := by
  unfold cNe; rw [if_pos ⟨shaped_tI a, shaped_tI b⟩, tpI, tpI, PyData.eqv, eqvAll_int]; simp
/-! dicts with ints as keys -/
section
variable {β : Type}
def getI (L : List (Int × β)) (k : Int) : Option β := (L.find? fun p => p.1 == k).map (·.2)
def putI (L : List (Int × β)) (k : Int) (v : β) : List (Int × β) := if (L.any fun p => p.1 == k) = true then L.map fun p => if (p.1 == k) = true then (p.1, v) else p else L ++ [(k, v)]
def dI (f : β → PyData) (L : List (Int × β)) : PyData := .dict (L.map fun p => (.int p.1, f p.2))
def kvI (f : β → PyData) (L : List (Int × β)) : List (PyData × PyData) := L.map fun p => (.int p.1, f p.2)
theorem lookD_int (f : β → PyData) (k : Int) : ∀ L : List (Int × β), lookD (kvI f L) (.int k) = (getI L k).map f
  | [] => rfl
  | p :: r => by
    have ih := lookD_int f k r
    unfold lookD getI kvI at ih ⊢
    rw [List.map_cons, List.find?_cons, List.find?_cons]
    simp only [PyData.eqv]
    cases p.1 == k with
    | true => rfl
    | false => exact ih
theorem putD_int (f : β → PyData) (k : Int) (v : β) (L : List (Int × β)) : putD (kvI f L) (.int k) (f v) = kvI f (putI L k v) := by
  unfold putD putI kvI
  have e : ((L.map fun p => ((.int p.1 : PyData), f p.2)).any fun p => PyData.eqv p.1 (.int k)) = L.any fun p => p.1 == k := by
    rw [List.any_map]; congr 1
  rw [e]
  split
  · rw [List.map_map, List.map_map]
    congr 1
    funext p
    simp only [Function.comp, PyData.eqv]
    by_cases hp : (p.1 == k) = true
    · rw [if_pos hp]; exact if_pos hp
    · rw [if_neg hp]; exact if_neg hp
  · rw [List.map_append]; rfl
theorem realD_int (f : β → PyData) (L : List (Int × β)) : realD (kvI f L) = true := by
  cases L <;> rfl
theorem kvI_length (f : β → PyData) (L : List (Int × β)) : (kvI f L).length = L.length := by unfold kvI; rw [List.length_map]
theorem kvI_keys (f : β → PyData) (L : List (Int × β)) : (kvI f L).map (·.1) = (L.map (·.1)).map .int := by
  unfold kvI; rw [List.map_map, List.map_map]; rfl
theorem getI_put (L : List (Int × β)) (k j : Int) (v : β) : getI (putI L k v) j = if j = k then some v else getI L j := by
  unfold putI
  split
  · rename_i h
    induction L with
    | nil => simp at h
    | cons p r ih =>
      unfold getI at ih ⊢
      simp only [List.map_cons, List.find?_cons]
      by_cases hp : (p.1 == k) = true
      · rw [if_pos hp]
        have e := eq_of_beq hp
        by_cases hj : j = k
        · subst hj
          rw [if_pos rfl]
          simp [e]
        · rw [if_neg hj]
          have n1 : (p.1 == j) = false := by rw [e]; simpa using fun z => hj z.symm
          simp only [n1]
          by_cases hr : (r.any fun p => p.1 == k) = true
          · have := ih hr
            rw [if_neg hj] at this
            exact this
          · have : (r.map fun p => if (p.1 == k) = true then (p.1, v) else p) = r := by
              have hr' : ∀ q ∈ r, ¬ (q.1 == k) = true := fun q hq z => hr (List.any_eq_true.mpr ⟨q, hq, z⟩)
              rw [List.map_congr_left (g := id) fun q hq => by rw [if_neg (hr' q hq)]; rfl]
              simp
            rw [this]
      · rw [if_neg hp]
        have hr : (r.any fun p => p.1 == k) = true := by
          rw [List.any_cons] at h
          simpa [hp] using h
        have ihr := ih hr
        by_cases hq : (p.1 == j) = true
        · simp only [hq]
          have : j ≠ k := fun z => hp (by rw [← z]; exact hq)
          rw [if_neg this]
        · have hq' : (p.1 == j) = false := by simpa using hq
          simp only [hq']
          exact ihr
  · rename_i h
    unfold getI
    rw [List.find?_append]
    by_cases hj : j = k
    · subst hj
      have : (L.find? fun p => p.1 == j) = none := by
        rw [List.find?_eq_none]
        intro q hq z
        exact h (List.any_eq_true.mpr ⟨q, hq, z⟩)
      rw [this, if_pos rfl]
      simp
    · rw [if_neg hj]
      cases hf : L.find? fun p => p.1 == j with
      | some q => rfl
      | none =>
        have : (k == j) = false := by simpa using fun z => hj z.symm
        simp [this]
theorem putI_length (L : List (Int × β)) (k : Int) (v : β) : (putI L k v).length ≤ L.length + 1 := by
  unfold putI
  split
  · rw [List.length_map]; omega
  · rw [List.length_append]; simp
theorem getI_mem {L : List (Int × β)} {k : Int} {v : β} (h : getI L k = some v) : (k, v) ∈ L := by
  unfold getI at h
  obtain ⟨p, h1, h2⟩ := Option.map_eq_some_iff.mp h
  have := List.find?_some h1
  have e := eq_of_beq this
  subst h2
  rw [← e]
  exact List.mem_of_find?_eq_some h1
theorem getI_key {L : List (Int × β)} {k : Int} : (getI L k).isSome = true ↔ k ∈ L.map (·.1) := by
  unfold getI
  rw [Option.isSome_map, List.find?_isSome]
  simp only [List.mem_map]
  constructor
  · rintro ⟨p, h1, h2⟩
    exact ⟨p, h1, eq_of_beq h2⟩
  · rintro ⟨p, h1, h2⟩
    exact ⟨p, h1, by simp [h2]⟩
theorem putI_keys (L : List (Int × β)) (k : Int) (v : β) : (putI L k v).map (·.1) = if k ∈ L.map (·.1) then L.map (·.1) else L.map (·.1) ++ [k] := by
  unfold putI
  by_cases h : (L.any fun p => p.1 == k) = true
  · rw [if_pos h]
    have : k ∈ L.map (·.1) := by
      rw [List.any_eq_true] at h
      obtain ⟨p, h1, h2⟩ := h
      exact List.mem_map.mpr ⟨p, h1, eq_of_beq h2⟩
    rw [if_pos this, List.map_map]
    congr 1
    funext p
    simp only [Function.comp]
    split <;> rfl
  · rw [if_neg h]
    have : k ∉ L.map (·.1) := fun z => by
      obtain ⟨p, h1, h2⟩ := List.mem_map.mp z
      exact h (List.any_eq_true.mpr ⟨p, h1, by simp [h2]⟩)
    rw [if_neg this, List.map_append]; rfl
theorem putI_nodup {L : List (Int × β)} {k : Int} {v : β} (h : (L.map (·.1)).Nodup) : ((putI L k v).map (·.1)).Nodup := by
  rw [putI_keys]
  split
  · exact h
  · rename_i hk
    rw [List.nodup_append]
    exact ⟨h, by simp, fun a ha b hb => by simp at hb; subst hb; exact fun z => hk (z ▸ ha)⟩
end
/-! the evaluator, construct by construct -/
theorem e_non {gl : Str → Option PyData} {c : Str → List PyData → Option PyData} {ρ : Rho} : ev gl c (.non) ρ = some (.fz, .none) := by rw [ev]
theorem e_bl {gl : Str → Option PyData} {c : Str → List PyData → Option PyData} {ρ : Rho} {b} : ev gl c (.bl b) ρ = some (.fz, .bool b) := by rw [ev]
theorem e_int {gl : Str → Option PyData} {c : Str → List PyData → Option PyData} {ρ : Rho} {i} : ev gl c (.int i) ρ = some (.fz, .int i) := by rw [ev]
theorem e_str {gl : Str → Option PyData} {c : Str → List PyData → Option PyData} {ρ : Rho} {z} : ev gl c (.str z) ρ = some (.fz, .str z) := by rw [ev]
theorem e_var {gl : Str → Option PyData} {c : Str → List PyData → Option PyData} {ρ : Rho} {i} : ev gl c (.var i) ρ = match ρ[i]? with
    | some (some (false, d)) => some (.fz, d)
    | some (some (true, d)) => some (.bw, d)
    | _ => none := by rw [ev] <;> rfl
theorem e_glob {gl : Str → Option PyData} {c : Str → List PyData → Option PyData} {ρ : Rho} {x} : ev gl c (.glob x) ρ = (gl x).map fun d => (.fz, d) := by rw [ev]
theorem e_bin {gl : Str → Option PyData} {c : Str → List PyData → Option PyData} {ρ : Rho} {o} {a} {b} : ev gl c (.bin o a b) ρ = (ev gl c a ρ).bind fun x => (ev gl c b ρ).bind fun y => dBin o x.2 y.2 := by rw [ev]
theorem e_neg {gl : Str → Option PyData} {c : Str → List PyData → Option PyData} {ρ : Rho} {a} : ev gl c (.neg a) ρ = (oneI (ev gl c a ρ)).map fun i => (.fz, .int (-i)) := by rw [ev]
theorem e_cmp {gl : Str → Option PyData} {c : Str → List PyData → Option PyData} {ρ : Rho} {o} {a} {b} : ev gl c (.cmp o a b) ρ = (ev gl c a ρ).bind fun x => (ev gl c b ρ).bind fun y => (dCmp o x.2 y.2).map fun r => (.fz, .bool r) := by rw [ev]
theorem e_isN {gl : Str → Option PyData} {c : Str → List PyData → Option PyData} {ρ : Rho} {a} : ev gl c (.isN a) ρ = (ev gl c a ρ).map fun x => (.fz, .bool (noneB x.2)) := by rw [ev]
theorem e_notN {gl : Str → Option PyData} {c : Str → List PyData → Option PyData} {ρ : Rho} {a} : ev gl c (.notN a) ρ = (ev gl c a ρ).map fun x => (.fz, .bool (!noneB x.2)) := by rw [ev]
theorem e_chain {gl : Str → Option PyData} {c : Str → List PyData → Option PyData} {ρ : Rho} {o} {o'} {a} {b} {c'} : ev gl c (.chain o o' a b c') ρ = (ev gl c a ρ).bind fun x => (ev gl c b ρ).bind fun y => (dCmp o x.2 y.2).bind fun r =>
      if r = true then (ev gl c c' ρ).bind fun z => (dCmp o' y.2 z.2).map fun r => (.fz, .bool r) else some (.fz, .bool false) := by rw [ev]
theorem e_and_ {gl : Str → Option PyData} {c : Str → List PyData → Option PyData} {ρ : Rho} {es} : ev gl c (.and_ es) ρ = (evAnd gl c es ρ).map fun b => (.fz, .bool b) := by rw [ev]
theorem e_or_ {gl : Str → Option PyData} {c : Str → List PyData → Option PyData} {ρ : Rho} {es} : ev gl c (.or_ es) ρ = (evOr gl c es ρ).map fun b => (.fz, .bool b) := by rw [ev]
theorem e_not_ {gl : Str → Option PyData} {c : Str → List PyData → Option PyData} {ρ : Rho} {a} : ev gl c (.not_ a) ρ = (bz (ev gl c a ρ)).map fun b => (.fz, .bool (!b)) := by rw [ev]
theorem e_ite {gl : Str → Option PyData} {c : Str → List PyData → Option PyData} {ρ : Rho} {t} {a} {b} : ev gl c (.ite t a b) ρ = (bz (ev gl c t ρ)).bind fun r => if r = true then ev gl c a ρ else ev gl c b ρ := by rw [ev]
theorem e_tup {gl : Str → Option PyData} {c : Str → List PyData → Option PyData} {ρ : Rho} {es} : ev gl c (.tup es) ρ = (evF gl c es ρ).bind fun ds => (fewD ds).map fun ds => (.fz, .tuple ds) := by rw [ev]
theorem e_lst {gl : Str → Option PyData} {c : Str → List PyData → Option PyData} {ρ : Rho} {es} : ev gl c (.lst es) ρ = (evF gl c es ρ).bind fun ds => (fewD ds).map fun ds => (.nw, .list ds) := by rw [ev]
theorem e_idx {gl : Str → Option PyData} {c : Str → List PyData → Option PyData} {ρ : Rho} {a} {b} : ev gl c (.idx a b) ρ = (ev gl c a ρ).bind fun x => (ev gl c b ρ).bind fun y => (dIdx x.2 y.2).map fun d => (.fz, d) := by rw [ev]
theorem e_sl {gl : Str → Option PyData} {c : Str → List PyData → Option PyData} {ρ : Rho} {a} {lo} {hi} : ev gl c (.sl a lo hi) ρ = (ev gl c a ρ).bind fun x => (evP gl c lo ρ).bind fun l => (evP gl c hi ρ).bind fun h => dSl x.2 l h := by rw [ev]
theorem e_rev {gl : Str → Option PyData} {c : Str → List PyData → Option PyData} {ρ : Rho} {a} : ev gl c (.rev a) ρ = (ev gl c a ρ).bind fun x => dRev x.2 := by rw [ev]
theorem e_sset {gl : Str → Option PyData} {c : Str → List PyData → Option PyData} {ρ : Rho} {a} : ev gl c (.sset a) ρ = (ev gl c a ρ).bind fun x => match x.2 with
    | .list xs => (intsD xs).bind fun ns => if ns.length < 64 then some (.nw, .list ((ssetI ns).map PyData.int)) else none
    | _ => none := by rw [ev] <;> rfl
theorem e_rng {gl : Str → Option PyData} {c : Str → List PyData → Option PyData} {ρ : Rho} {t} {a} {b} : ev gl c (.rng t a b) ρ = (evP gl c a ρ).bind fun lo => (oneI (ev gl c b ρ)).bind fun h =>
      if -100000000 ≤ lo.getD 0 ∧ lo.getD 0 ≤ 100000000 ∧ -100000000 ≤ h ∧ h ≤ 100000000 ∧ h - lo.getD 0 ≤ 100000 then
        some (if t = true then (.fz, .tuple (rangeD (lo.getD 0) h)) else (.nw, .list (rangeD (lo.getD 0) h))) else none := by rw [ev]
theorem e_call {gl : Str → Option PyData} {c : Str → List PyData → Option PyData} {ρ : Rho} {f} {es} : ev gl c (.call f es) ρ = (evF gl c es ρ).bind fun ds => (c f ds).map fun d => (.fz, d) := by rw [ev]
theorem e_callv {gl : Str → Option PyData} {c : Str → List PyData → Option PyData} {ρ : Rho} {i} {es} : ev gl c (.callv i es) ρ = match ρ[i]? with
    | some (some (false, .dict [(.none, .str x)])) => (evF gl c es ρ).bind fun ds => (c x ds).map fun d => (.fz, d)
    | _ => none := by rw [ev] <;> rfl
theorem e_blt {gl : Str → Option PyData} {c : Str → List PyData → Option PyData} {ρ : Rho} {f} {es} : ev gl c (.blt f es) ρ = (evV gl c es ρ).bind fun ds => dBi f ds := by rw [ev]
theorem e_isi {gl : Str → Option PyData} {c : Str → List PyData → Option PyData} {ρ : Rho} {a} {ty} : ev gl c (.isi a ty) ρ = (ev gl c a ρ).bind fun x => (isiD ty x.2).map fun b => (.fz, .bool b) := by rw [ev]
theorem e_dis {gl : Str → Option PyData} {c : Str → List PyData → Option PyData} {ρ : Rho} {es} : ev gl c (.dis es) ρ = (evKV gl c es ρ).bind fun kvs => if kvs.length ≤ 15 then some (.nw, .dict (kvs.foldl (fun acc p => putD acc p.1 p.2) [])) else none := by rw [ev]
theorem e_dget {gl : Str → Option PyData} {c : Str → List PyData → Option PyData} {ρ : Rho} {d} {k} {x} : ev gl c (.dget d k x) ρ = (ev gl c d ρ).bind fun a => (ev gl c k ρ).bind fun y => (kz (ev gl c x ρ)).bind fun z => match a.2 with
    | .dict kvs => if isKey y.2 = true ∧ realD kvs = true then some (.fz, (lookD kvs y.2).getD z) else none
    | _ => none := by rw [ev] <;> rfl
theorem z_frz {gl : Str → Option PyData} {c : Str → List PyData → Option PyData} {n : Nat} {ρ : Rho} {is} : evS gl c n (.frz is) ρ = some (.nx (frzL is ρ)) := by rw [evS]
theorem z_app {gl : Str → Option PyData} {c : Str → List PyData → Option PyData} {n : Nat} {ρ : Rho} {i} {e} : evS gl c n (.app i e) ρ = (kz (ev gl c e ρ)).bind fun d => appS i d ρ := by rw [evS]
theorem z_ext {gl : Str → Option PyData} {c : Str → List PyData → Option PyData} {n : Nat} {ρ : Rho} {i} {e} : evS gl c n (.ext i e) ρ = (ev gl c e ρ).bind fun x => extS i x.2 ρ := by rw [evS]
theorem z_drop {gl : Str → Option PyData} {c : Str → List PyData → Option PyData} {n : Nat} {ρ : Rho} {e} : evS gl c n (.drop e) ρ = (ev gl c e ρ).map fun _ => .nx ρ := by rw [evS]
theorem z_set {gl : Str → Option PyData} {c : Str → List PyData → Option PyData} {n : Nat} {ρ : Rho} {i} {e} : evS gl c n (.set i e) ρ = (ev gl c e ρ).bind fun x => setS i (varOf e) x ρ := by rw [evS]
theorem z_setT {gl : Str → Option PyData} {c : Str → List PyData → Option PyData} {n : Nat} {ρ : Rho} {t} {e} : evS gl c n (.setT t e) ρ = (kz (ev gl c e ρ)).bind fun d => (bindT t d ρ).map .nx := by rw [evS]
theorem z_par {gl : Str → Option PyData} {c : Str → List PyData → Option PyData} {n : Nat} {ρ : Rho} {i} {j} {a} {b} : evS gl c n (.par i j a b) ρ = (ev gl c a ρ).bind fun x => (ev gl c b ρ).bind fun y => parS i j x y ρ := by rw [evS]
theorem z_aug {gl : Str → Option PyData} {c : Str → List PyData → Option PyData} {n : Nat} {ρ : Rho} {i} {o} {e} : evS gl c n (.aug i o e) ρ = (ev gl c e ρ).bind fun y => augS i o y.2 ρ := by rw [evS]
theorem z_put {gl : Str → Option PyData} {c : Str → List PyData → Option PyData} {n : Nat} {ρ : Rho} {i} {k} {v} : evS gl c n (.put i k v) ρ = (kz (ev gl c v ρ)).bind fun d => (ev gl c k ρ).bind fun kk => putS i kk.2 d ρ := by rw [evS]
theorem z_augPut {gl : Str → Option PyData} {c : Str → List PyData → Option PyData} {n : Nat} {ρ : Rho} {_x0} {_x1} {_x2} {_x3} : evS gl c n (.augPut _x0 _x1 _x2 _x3) ρ = none := by rw [evS]
theorem z_ite {gl : Str → Option PyData} {c : Str → List PyData → Option PyData} {n : Nat} {ρ : Rho} {t} {a} {b} : evS gl c n (.ite t a b) ρ = (bz (ev gl c t ρ)).bind fun r => if r = true then evS gl c n a ρ else evS gl c n b ρ := by rw [evS]
theorem z_ret {gl : Str → Option PyData} {c : Str → List PyData → Option PyData} {n : Nat} {ρ : Rho} {e} : evS gl c n (.ret e) ρ = (kz (ev gl c e ρ)).map .rt := by rw [evS]
theorem z_retN {gl : Str → Option PyData} {c : Str → List PyData → Option PyData} {n : Nat} {ρ : Rho} : evS gl c n (.retN) ρ = some (.rt .none) := by rw [evS]
theorem z_pass {gl : Str → Option PyData} {c : Str → List PyData → Option PyData} {n : Nat} {ρ : Rho} : evS gl c n (.pass) ρ = some (.nx ρ) := by rw [evS]
theorem z_brk {gl : Str → Option PyData} {c : Str → List PyData → Option PyData} {n : Nat} {ρ : Rho} : evS gl c n (.brk) ρ = some (.bk ρ) := by rw [evS]
theorem z_cont {gl : Str → Option PyData} {c : Str → List PyData → Option PyData} {n : Nat} {ρ : Rho} : evS gl c n (.cont) ρ = some (.ct ρ) := by rw [evS]
theorem z_never {gl : Str → Option PyData} {c : Str → List PyData → Option PyData} {n : Nat} {ρ : Rho} : evS gl c n (.never) ρ = none := by rw [evS]
theorem z_nil {gl : Str → Option PyData} {c : Str → List PyData → Option PyData} {n : Nat} {ρ : Rho} : evS gl c n (.nil) ρ = some (.nx ρ) := by rw [evS]
theorem z_cons {gl : Str → Option PyData} {c : Str → List PyData → Option PyData} {n : Nat} {ρ : Rho} {a} {b} : evS gl c n (.cons a b) ρ = (evS gl c n a ρ).bind fun f => seqF f (evS gl c n b) := by rw [evS]
theorem e_comp0 {α : Type} {gl : Str → Option PyData} {c : Str → List PyData → Option PyData} {ρ : Rho} {elt : E} {tg : Tg} {it : Wi} {own : List (Str × Nat)} {b : Bool} {l : List α} (g h : α → PyData) (hi : evI gl c it ρ = some (b, l.map g)) (hl : l.length ≤ 100000)
    (hF : ∀ x ∈ l, ∃ ρ', bindT tg (g x) (wipeR ρ (own.map (·.2))) = some ρ' ∧ kz (ev gl c elt ρ') = some (h x)) : ev gl c (.comp elt tg it .no own) ρ = some (.nw, .list (l.map h)) := by
  rw [ev, hi, Option.bind_some, fewD, if_pos (by rw [List.length_map]; exact hl), Option.bind_some, compL_map (β := Unit) g h l fun x hx => ?_]
  · rfl
  · obtain ⟨ρ', h1, h2⟩ := hF x hx
    rw [h1, Option.bind_some, evC, Option.bind_some, if_pos rfl, h2]; rfl
theorem e_comp1 {α : Type} {gl : Str → Option PyData} {c : Str → List PyData → Option PyData} {ρ : Rho} {elt cond : E} {tg : Tg} {it : Wi} {own : List (Str × Nat)} {b : Bool} {l : List α} (g h : α → PyData) (cnd : α → Bool) (hi : evI gl c it ρ = some (b, l.map g)) (hl : l.length ≤ 100000)
    (hF : ∀ x ∈ l, ∃ ρ', bindT tg (g x) (wipeR ρ (own.map (·.2))) = some ρ' ∧ evC gl c cond ρ' = some (cnd x) ∧ kz (ev gl c elt ρ') = some (h x)) : ev gl c (.comp elt tg it cond own) ρ = some (.nw, .list ((l.filter cnd).map h)) := by
  rw [ev, hi, Option.bind_some, fewD, if_pos (by rw [List.length_map]; exact hl), Option.bind_some, compL_filter g cnd h l fun x hx => ?_]
  · rfl
  · obtain ⟨ρ', h1, h2, h3⟩ := hF x hx
    rw [h1, Option.bind_some, h2, Option.bind_some, h3]
    cases cnd x <;> rfl
theorem z_for {α : Type} {gl : Str → Option PyData} {c : Str → List PyData → Option PyData} {n : Nat} {ρ : Rho} {t : Tg} {it : Wi} {b : Sm} {l : List α} (g : α → PyData) (P : List α → Rho → Prop) (hi : evI gl c it ρ = some (false, l.map g)) (h0 : P l ρ)
    (step : ∀ x r ρ, P (x :: r) ρ → ∃ ρ1 ρ2, bindT t (g x) ρ = some ρ1 ∧ (evS gl c n b ρ1 = some (.nx ρ2) ∨ evS gl c n b ρ1 = some (.ct ρ2)) ∧ P r ρ2) : ∃ ρ', evS gl c n (.for_ t it b) ρ = some (.nx ρ') ∧ P [] ρ' := by
  obtain ⟨ρ', h1, h2⟩ := forF_ind (fb := evS gl c n b) g P step l ρ h0
  exact ⟨ρ', by rw [evS, hi, Option.bind_some, if_pos rfl, h1], h2⟩
end Bw

namespace Bw
namespace K3
open PySem PySem.Spec PyProof.Rows L2
abbrev top (i : Nat) : Stmt := PySem.Challenge.pw_bakewright_k03_main_weights_go_along.main.body.getD i (.Pass ⟨0, 0, 0, 0⟩)
def b_is_whole : Sm := (.cons (.ret (.and_ (.cons (.isi (.var 0) "int") (.cons (.not_ (.isi (.var 0) "bool")) (.cons (.chain .le .le (.var 1) (.var 0) (.var 2)) .nil)))))
  .nil)
def t_is_whole : Tx := ⟨"is_whole", top 7, ["value", "least", "most"], ["value", "least", "most"], b_is_whole⟩
def b_ascends : Sm := (.cons (.ret (.blt .all (.cons (.comp (.cmp .lt (.var 1) (.var 2)) (.tp 2 (.cons (.nm 1) (.cons (.nm 2) .nil))) (.zip2 (.var 0) (.sl (.var 0) (.int 1) .no)) .no [("one", 1), ("later", 2)]) .nil)))
  .nil)
def t_ascends : Tx := ⟨"ascends", top 8, ["values", "one", "later"], ["values"], b_ascends⟩
def b__check_weights : Sm := (.cons (.ite (.or_ (.cons (.not_ (.isi (.var 0) "tuple")) (.cons (.not_ (.chain .le .le (.int 1) (.blt .len (.cons (.var 0) .nil)) (.glob "MOST_WEIGHTS"))) .nil))) (.cons .never
  .nil) .nil)
  (.cons (.ite (.or_ (.cons (.not_ (.blt .all (.cons (.comp (.call "is_whole" (.cons (.var 1) (.cons (.int 1) (.cons (.glob "MOST_WEIGHT") .nil)))) (.nm 1) (.over (.var 0)) .no [("one", 1)]) .nil))) (.cons (.not_ (.call "ascends" (.cons (.var 0) .nil))) .nil))) (.cons .never
  .nil) .nil)
  .nil))
def t__check_weights : Tx := ⟨"_check_weights", top 15, ["weights", "one"], ["weights"], b__check_weights⟩
def b__check_pans : Sm := (.cons (.ite (.not_ (.call "is_whole" (.cons (.var 0) (.cons (.int 1) (.cons (.int 2) .nil))))) (.cons .never
  .nil) .nil)
  .nil)
def t__check_pans : Tx := ⟨"_check_pans", top 16, ["pans"], ["pans"], b__check_pans⟩
def b__check_amount : Sm := (.cons (.ite (.not_ (.call "is_whole" (.cons (.var 0) (.cons (.int 1) (.cons (.glob "MOST_AMOUNT") .nil))))) (.cons .never
  .nil) .nil)
  .nil)
def t__check_amount : Tx := ⟨"_check_amount", top 17, ["amount"], ["amount"], b__check_amount⟩
def b__places : Sm := (.cons (.ret (.ite (.cmp .eq (.var 0) (.int 1)) (.tup (.cons (.int 0) (.cons (.int 1) .nil))) (.tup (.cons (.neg (.int 1)) (.cons (.int 0) (.cons (.int 1) .nil))))))
  .nil)
def t__places : Tx := ⟨"_places", top 18, ["pans"], ["pans"], b__places⟩
def b__counts : Sm := (.cons (.set 2 (.dis (.cons (.int 0) (.cons (.int 1) .nil))))
  (.cons (.frz [2])
  (.cons (.for_ (.nm 3) (.over (.var 0)) (.cons (.set 4 (.dis .nil))
  (.cons (.for_ (.nm 5) (.over (.var 2)) (.cons (.for_ (.nm 6) (.over (.call "_places" (.cons (.var 1) .nil))) (.cons (.set 7 (.bin .add (.var 5) (.bin .mul (.var 6) (.var 3))))
  (.cons (.frz [7])
  (.cons (.put 4 (.var 7) (.bin .add (.dget (.var 4) (.var 7) (.int 0)) (.idx (.var 2) (.var 5))))
  .nil))))
  .nil))
  (.cons (.set 2 (.var 4))
  .nil))))
  (.cons (.ret (.var 2))
  .nil))))
def t__counts : Tx := ⟨"_counts", top 19, ["weights", "pans", "found", "weight", "later", "own", "place", "there"], ["weights", "pans"], b__counts⟩
def b_weighable : Sm := (.cons (.drop (.call "_check_weights" (.cons (.var 0) .nil)))
  (.cons (.drop (.call "_check_pans" (.cons (.var 1) .nil)))
  (.cons (.ret (.blt .tuple (.cons (.blt .sorted (.cons (.comp (.var 2) (.nm 2) (.over (.call "_counts" (.cons (.var 0) (.cons (.var 1) .nil)))) (.cmp .gt (.var 2) (.int 0)) [("one", 2)]) .nil)) .nil)))
  .nil)))
def t_weighable : Tx := ⟨"weighable", top 20, ["weights", "pans", "one"], ["weights", "pans"], b_weighable⟩
def b_ways_to : Sm := (.cons (.drop (.call "_check_weights" (.cons (.var 0) .nil)))
  (.cons (.drop (.call "_check_pans" (.cons (.var 1) .nil)))
  (.cons (.drop (.call "_check_amount" (.cons (.var 2) .nil)))
  (.cons (.ret (.dget (.call "_counts" (.cons (.var 0) (.cons (.var 1) .nil))) (.var 2) (.int 0)))
  .nil))))
def t_ways_to : Tx := ⟨"ways_to", top 21, ["weights", "pans", "amount"], ["weights", "pans", "amount"], b_ways_to⟩
def b__first : Sm := (.cons (.ite (.cmp .eq (.blt .len (.cons (.var 0) .nil)) (.int 0)) (.cons (.ret (.ite (.cmp .eq (.var 2) (.int 0)) (.tup .nil) .non))
  .nil) .nil)
  (.cons (.set 3 (.call "_counts" (.cons (.sl (.var 0) (.int 1) .no) (.cons (.var 1) .nil))))
  (.cons (.for_ (.nm 4) (.over (.call "_places" (.cons (.var 1) .nil))) (.cons (.ite (.cmp .isin (.bin .sub (.var 2) (.bin .mul (.var 4) (.idx (.var 0) (.int 0)))) (.var 3)) (.cons (.ret (.bin .add (.tup (.cons (.var 4) .nil)) (.call "_first" (.cons (.sl (.var 0) (.int 1) .no) (.cons (.var 1) (.cons (.bin .sub (.var 2) (.bin .mul (.var 4) (.idx (.var 0) (.int 0)))) .nil))))))
  .nil) .nil)
  .nil))
  (.cons (.ret .non)
  .nil))))
def t__first : Tx := ⟨"_first", top 22, ["weights", "pans", "amount", "able", "place"], ["weights", "pans", "amount"], b__first⟩
def b_first_way : Sm := (.cons (.drop (.call "_check_weights" (.cons (.var 0) .nil)))
  (.cons (.drop (.call "_check_pans" (.cons (.var 1) .nil)))
  (.cons (.drop (.call "_check_amount" (.cons (.var 2) .nil)))
  (.cons (.ret (.call "_first" (.cons (.var 0) (.cons (.var 1) (.cons (.var 2) .nil)))))
  .nil))))
def t_first_way : Tx := ⟨"first_way", top 23, ["weights", "pans", "amount"], ["weights", "pans", "amount"], b_first_way⟩
def b_fewest_used : Sm := (.cons (.drop (.call "_check_weights" (.cons (.var 0) .nil)))
  (.cons (.drop (.call "_check_pans" (.cons (.var 1) .nil)))
  (.cons (.drop (.call "_check_amount" (.cons (.var 2) .nil)))
  (.cons (.set 3 (.dis (.cons (.int 0) (.cons (.tup (.cons (.int 0) (.cons (.tup .nil) .nil))) .nil))))
  (.cons (.frz [3])
  (.cons (.for_ (.nm 4) (.over (.var 0)) (.cons (.set 5 (.dis .nil))
  (.cons (.for_ (.nm 6) (.over (.var 3)) (.cons (.setT (.tp 2 (.cons (.nm 7) (.cons (.nm 8) .nil))) (.idx (.var 3) (.var 6)))
  (.cons (.for_ (.nm 9) (.over (.call "_places" (.cons (.var 1) .nil))) (.cons (.set 10 (.tup (.cons (.bin .add (.var 7) (.blt .abs (.cons (.var 9) .nil))) (.cons (.bin .add (.var 8) (.tup (.cons (.var 9) .nil))) .nil))))
  (.cons (.set 11 (.bin .add (.var 6) (.bin .mul (.var 9) (.var 4))))
  (.cons (.frz [11])
  (.cons (.put 5 (.var 11) (.blt .min (.cons (.dget (.var 5) (.var 11) (.var 10)) (.cons (.var 10) .nil))))
  .nil)))))
  .nil)))
  (.cons (.set 3 (.var 5))
  .nil))))
  (.cons (.ret (.ite (.cmp .isin (.var 2) (.var 3)) (.idx (.idx (.var 3) (.var 2)) (.int 1)) .non))
  .nil)))))))
def t_fewest_used : Tx := ⟨"fewest_used", top 24, ["weights", "pans", "amount", "found", "weight", "later", "own", "many", "way", "place", "row", "there"], ["weights", "pans", "amount"], b_fewest_used⟩
def b__weighed : Sm := (.cons (.ret (.blt .sum (.cons (.comp (.bin .mul (.var 2) (.var 3)) (.tp 2 (.cons (.nm 2) (.cons (.nm 3) .nil))) (.zip2 (.var 1) (.var 0)) .no [("place", 2), ("weight", 3)]) .nil)))
  .nil)
def t__weighed : Tx := ⟨"_weighed", top 25, ["weights", "way", "place", "weight"], ["weights", "way"], b__weighed⟩
def b_way_fault : Sm := (.cons (.drop (.call "_check_weights" (.cons (.var 0) .nil)))
  (.cons (.drop (.call "_check_pans" (.cons (.var 1) .nil)))
  (.cons (.drop (.call "_check_amount" (.cons (.var 2) .nil)))
  (.cons (.ite (.or_ (.cons (.not_ (.isi (.var 3) "tuple")) (.cons (.cmp .ne (.blt .len (.cons (.var 3) .nil)) (.blt .len (.cons (.var 0) .nil))) .nil))) (.cons .never
  .nil) .nil)
  (.cons (.ite (.not_ (.blt .all (.cons (.comp (.call "is_whole" (.cons (.var 5) (.cons (.idx (.call "_places" (.cons (.var 1) .nil)) (.int 0)) (.cons (.int 1) .nil)))) (.nm 5) (.over (.var 3)) .no [("one", 5)]) .nil))) (.cons .never
  .nil) .nil)
  (.cons (.set 4 (.bin .sub (.var 2) (.call "_weighed" (.cons (.var 0) (.cons (.var 3) .nil)))))
  (.cons (.ret (.ite (.cmp .ne (.var 4) (.int 0)) (.tup (.cons (.str "off") (.cons (.var 4) .nil))) .non))
  .nil)))))))
def t_way_fault : Tx := ⟨"way_fault", top 26, ["weights", "pans", "amount", "value", "rest", "one"], ["weights", "pans", "amount", "value"], b_way_fault⟩
def b__gap : Sm := (.cons (.set 2 (.call "_counts" (.cons (.var 0) (.cons (.var 1) .nil))))
  (.cons (.set 3 (.int 1))
  (.cons (.while_ (.cmp .isin (.var 3) (.var 2)) (.cons (.aug 3 .add (.int 1))
  .nil))
  (.cons (.ret (.var 3))
  .nil))))
def t__gap : Tx := ⟨"_gap", top 27, ["weights", "pans", "able", "amount"], ["weights", "pans"], b__gap⟩
def b_gap : Sm := (.cons (.drop (.call "_check_weights" (.cons (.var 0) .nil)))
  (.cons (.drop (.call "_check_pans" (.cons (.var 1) .nil)))
  (.cons (.ret (.call "_gap" (.cons (.var 0) (.cons (.var 1) .nil))))
  .nil)))
def t_gap : Tx := ⟨"gap", top 28, ["weights", "pans"], ["weights", "pans"], b_gap⟩
def b__check_most : Sm := (.cons (.ite (.not_ (.call "is_whole" (.cons (.var 0) (.cons (.int 1) (.cons (.glob "MOST_ALL") .nil))))) (.cons .never
  .nil) .nil)
  .nil)
def t__check_most : Tx := ⟨"_check_most", top 29, ["most"], ["most"], b__check_most⟩
def b_is_enough : Sm := (.cons (.drop (.call "_check_weights" (.cons (.var 0) .nil)))
  (.cons (.drop (.call "_check_pans" (.cons (.var 1) .nil)))
  (.cons (.drop (.call "_check_most" (.cons (.var 2) .nil)))
  (.cons (.ret (.cmp .gt (.call "_gap" (.cons (.var 0) (.cons (.var 1) .nil))) (.var 2)))
  .nil))))
def t_is_enough : Tx := ⟨"is_enough", top 30, ["weights", "pans", "most"], ["weights", "pans", "most"], b_is_enough⟩
def b__law_draws : Sm := (.cons (.set 2 (.lst .nil))
  (.cons (.set 3 (.int 7))
  (.cons (.for_ (.nm 4) (.over (.sl (.var 0) .no (.int 63))) (.cons (.set 5 (.blt .abs (.cons (.var 4) .nil)))
  (.cons (.set 3 (.bin .mod (.blt .int (.cons (.bin .add (.bin .add (.bin .mul (.var 3) (.int 48271)) (.var 5)) (.int 11)) .nil)) (.int 2147483647)))
  (.cons (.ite (.cmp .ge (.var 5) (.bin .pow (.int 10) (.int 18))) (.cons (.for_ (.nm 6) (.range1 (.int 60)) (.cons (.ite (.cmp .gt (.var 5) (.int 0)) (.cons (.app 2 (.bin .mod (.blt .int (.cons (.var 5) .nil)) (.int 1009)))
  (.cons (.set 5 (.bin .fdiv (.var 5) (.int 1009)))
  .nil)) .nil)
  .nil))
  .nil) (.cons (.app 2 (.bin .mod (.bin .fdiv (.blt .int (.cons (.bin .add (.bin .mul (.var 3) (.int 16807)) (.int 5)) .nil)) (.int 3)) (.int 65521)))
  .nil))
  .nil))))
  (.cons (.for_ (.nm 6) (.range1 (.var 1)) (.cons (.ite (.cmp .lt (.blt .len (.cons (.var 2) .nil)) (.var 1)) (.cons (.set 3 (.bin .mod (.blt .int (.cons (.bin .add (.bin .add (.bin .mul (.var 3) (.int 69621)) (.var 6)) (.int 1)) .nil)) (.int 2147483647)))
  (.cons (.app 2 (.bin .mod (.bin .fdiv (.blt .int (.cons (.var 3) .nil)) (.int 7)) (.int 65521)))
  .nil)) .nil)
  .nil))
  (.cons (.ret (.sl (.var 2) .no (.var 1)))
  .nil)))))
def t__law_draws : Tx := ⟨"_law_draws", top 32, ["script", "many", "draws", "seed", "cell", "number", "k"], ["script", "many"], b__law_draws⟩
def b__law_ways : Sm := (.cons (.set 2 (.dis (.cons (.int 0) (.cons (.int 1) .nil))))
  (.cons (.frz [2])
  (.cons (.for_ (.nm 3) (.over (.var 0)) (.cons (.set 4 (.dis .nil))
  (.cons (.for_ (.nm 5) (.over (.var 2)) (.cons (.for_ (.nm 6) (.over (.ite (.cmp .eq (.var 1) (.int 1)) (.tup (.cons (.int 0) (.cons (.var 3) .nil))) (.tup (.cons (.bin .sub (.int 0) (.var 3)) (.cons (.int 0) (.cons (.var 3) .nil)))))) (.cons (.put 4 (.bin .add (.var 5) (.var 6)) (.bin .add (.dget (.var 4) (.bin .add (.var 5) (.var 6)) (.int 0)) (.idx (.var 2) (.var 5))))
  .nil))
  .nil))
  (.cons (.set 2 (.var 4))
  .nil))))
  (.cons (.ret (.var 2))
  .nil))))
def t__law_ways : Tx := ⟨"_law_ways", top 33, ["weights", "pans", "found", "weight", "later", "total", "more"], ["weights", "pans"], b__law_ways⟩
def b_law : Sm := (.cons (.set 1 (.call "_law_draws" (.cons (.var 0) (.cons (.int 200) .nil))))
  (.cons (.for_ (.nm 2) (.range1 (.int 5)) (.cons (.setT (.tp 2 (.cons (.nm 3) (.cons (.nm 4) .nil))) (.tup (.cons (.bin .add (.int 1) (.bin .mod (.blt .int (.cons (.idx (.var 1) (.var 2)) .nil)) (.int 6))) (.cons (.bin .add (.int 1) (.bin .mod (.blt .int (.cons (.idx (.var 1) (.bin .add (.int 10) (.var 2))) .nil)) (.int 2))) .nil))))
  (.cons (.set 5 (.blt .tuple (.cons (.sset (.comp (.bin .add (.int 1) (.bin .mod (.blt .int (.cons (.idx (.var 1) (.bin .add (.bin .add (.int 20) (.bin .mul (.int 8) (.var 2))) (.var 21))) .nil)) (.int 40))) (.nm 21) (.range1 (.var 3)) .no [("k", 21)])) .nil)))
  (.cons (.set 6 (.call "_law_ways" (.cons (.var 5) (.cons (.var 4) .nil))))
  (.cons (.ite (.cmp .ne (.call "weighable" (.cons (.var 5) (.cons (.var 4) .nil))) (.blt .tuple (.cons (.blt .sorted (.cons (.comp (.var 7) (.nm 7) (.over (.var 6)) (.cmp .gt (.var 7) (.int 0)) [("total", 7)]) .nil)) .nil))) (.cons (.ret (.bl false))
  .nil) .nil)
  (.cons (.set 7 (.blt .sum (.cons (.comp (.call "ways_to" (.cons (.var 5) (.cons (.var 4) (.cons (.var 12) .nil)))) (.nm 12) (.over (.call "weighable" (.cons (.var 5) (.cons (.var 4) .nil)))) .no [("amount", 12)]) .nil)))
  (.cons (.set 8 (.int 1))
  (.cons (.for_ (.nm 9) (.over (.var 5)) (.cons (.set 8 (.bin .mul (.var 8) (.bin .add (.var 4) (.int 1))))
  (.cons (.frz [8])
  .nil)))
  (.cons (.ite (.or_ (.cons (.cmp .ne (.ite (.cmp .eq (.var 4) (.int 1)) (.var 7) (.bin .mul (.int 2) (.var 7))) (.bin .sub (.var 8) (.idx (.var 6) (.int 0)))) (.cons (.blt .any (.cons (.comp (.cmp .ne (.call "ways_to" (.cons (.var 5) (.cons (.var 4) (.cons (.var 12) .nil)))) (.idx (.var 6) (.var 12))) (.nm 12) (.over (.sl (.blt .list (.cons (.call "weighable" (.cons (.var 5) (.cons (.var 4) .nil))) .nil)) .no (.int 20))) .no [("amount", 12)]) .nil)) .nil))) (.cons (.ret (.bl false))
  .nil) .nil)
  (.cons (.set 10 (.bin .add (.int 2) (.bin .mod (.blt .int (.cons (.idx (.var 1) (.bin .add (.int 70) (.var 2))) .nil)) (.int 5))))
  (.cons (.frz [10])
  (.cons (.set 11 (.blt .tuple (.cons (.comp (.bin .mul (.var 10) (.var 9)) (.nm 9) (.over (.var 5)) .no [("weight", 9)]) .nil)))
  (.cons (.ite (.cmp .ne (.call "weighable" (.cons (.var 11) (.cons (.var 4) .nil))) (.blt .tuple (.cons (.comp (.bin .mul (.var 10) (.var 12)) (.nm 12) (.over (.call "weighable" (.cons (.var 5) (.cons (.var 4) .nil)))) .no [("amount", 12)]) .nil))) (.cons (.ret (.bl false))
  .nil) .nil)
  (.cons (.set 12 (.idx (.call "weighable" (.cons (.var 5) (.cons (.var 4) .nil))) (.bin .mod (.blt .int (.cons (.idx (.var 1) (.bin .add (.int 80) (.var 2))) .nil)) (.blt .len (.cons (.call "weighable" (.cons (.var 5) (.cons (.var 4) .nil))) .nil)))))
  (.cons (.ite (.or_ (.cons (.cmp .ne (.call "ways_to" (.cons (.var 11) (.cons (.var 4) (.cons (.bin .mul (.var 10) (.var 12)) .nil)))) (.call "ways_to" (.cons (.var 5) (.cons (.var 4) (.cons (.var 12) .nil))))) (.cons (.cmp .ne (.call "first_way" (.cons (.var 11) (.cons (.var 4) (.cons (.bin .mul (.var 10) (.var 12)) .nil)))) (.call "first_way" (.cons (.var 5) (.cons (.var 4) (.cons (.var 12) .nil))))) .nil))) (.cons (.ret (.bl false))
  .nil) .nil)
  (.cons (.set 13 (.call "fewest_used" (.cons (.var 5) (.cons (.var 4) (.cons (.var 12) .nil)))))
  (.cons (.ite (.or_ (.cons (.cmp .ne (.call "ways_to" (.cons (.var 11) (.cons (.var 4) (.cons (.bin .add (.bin .mul (.var 10) (.var 12)) (.int 1)) .nil)))) (.int 0)) (.cons (.cmp .ne (.call "fewest_used" (.cons (.var 11) (.cons (.var 4) (.cons (.bin .mul (.var 10) (.var 12)) .nil)))) (.var 13)) (.cons (.notN (.call "way_fault" (.cons (.var 5) (.cons (.var 4) (.cons (.var 12) (.cons (.var 13) .nil)))))) .nil)))) (.cons (.ret (.bl false))
  .nil) .nil)
  (.cons (.set 14 (.call "weighable" (.cons (.var 5) (.cons (.int 2) .nil))))
  (.cons (.ite (.or_ (.cons (.blt .any (.cons (.comp (.cmp .notin (.var 23) (.var 14)) (.nm 23) (.over (.call "weighable" (.cons (.var 5) (.cons (.int 1) .nil)))) .no [("one", 23)]) .nil)) (.cons (.cmp .gt (.call "gap" (.cons (.var 5) (.cons (.int 1) .nil))) (.call "gap" (.cons (.var 5) (.cons (.int 2) .nil)))) .nil))) (.cons (.ret (.bl false))
  .nil) .nil)
  (.cons (.set 15 (.bin .add (.bin .add (.idx (.var 5) (.neg (.int 1))) (.int 1)) (.bin .mod (.blt .int (.cons (.idx (.var 1) (.bin .add (.int 90) (.var 2))) .nil)) (.int 30))))
  (.cons (.frz [15])
  (.cons (.set 16 (.bin .add (.var 5) (.tup (.cons (.var 15) .nil))))
  (.cons (.frz [16])
  (.cons (.for_ (.nm 17) (.over (.tup (.cons (.var 12) (.cons (.var 15) (.cons (.bin .add (.var 12) (.var 15)) .nil))))) (.cons (.set 18 (.bin .add (.bin .add (.dget (.var 6) (.var 17) (.int 0)) (.dget (.var 6) (.bin .sub (.var 17) (.var 15)) (.int 0))) (.ite (.cmp .eq (.var 4) (.int 2)) (.dget (.var 6) (.bin .add (.var 17) (.var 15)) (.int 0)) (.int 0))))
  (.cons (.frz [18])
  (.cons (.ite (.cmp .ne (.call "ways_to" (.cons (.var 16) (.cons (.var 4) (.cons (.var 17) .nil)))) (.var 18)) (.cons (.ret (.bl false))
  .nil) .nil)
  .nil))))
  (.cons (.set 19 (.bin .add (.int 1) (.bin .mod (.blt .int (.cons (.idx (.var 1) (.bin .add (.int 100) (.var 2))) .nil)) (.int 6))))
  (.cons (.frz [19])
  (.cons (.set 20 (.lst (.cons (.int 1) .nil)))
  (.cons (.for_ (.nm 21) (.range1 (.bin .sub (.var 19) (.int 1))) (.cons (.app 20 (.bin .mul (.idx (.var 20) (.neg (.int 1))) (.bin .add (.var 4) (.int 1))))
  .nil))
  (.cons (.set 22 (.blt .sum (.cons (.var 20) .nil)))
  (.cons (.ite (.or_ (.cons (.cmp .ne (.call "weighable" (.cons (.blt .tuple (.cons (.var 20) .nil)) (.cons (.var 4) .nil))) (.rng true (.int 1) (.bin .add (.var 22) (.int 1)))) (.cons (.cmp .ne (.call "gap" (.cons (.blt .tuple (.cons (.var 20) .nil)) (.cons (.var 4) .nil))) (.bin .add (.var 22) (.int 1))) (.cons (.not_ (.call "is_enough" (.cons (.blt .tuple (.cons (.var 20) .nil)) (.cons (.var 4) (.cons (.blt .min (.cons (.var 22) (.cons (.int 1000) .nil))) .nil))))) .nil)))) (.cons (.ret (.bl false))
  .nil) .nil)
  (.cons (.ite (.blt .any (.cons (.comp (.cmp .ne (.call "ways_to" (.cons (.blt .tuple (.cons (.var 20) .nil)) (.cons (.var 4) (.cons (.var 23) .nil)))) (.int 1)) (.nm 23) (.over (.tup (.cons (.int 1) (.cons (.var 22) (.cons (.bin .add (.int 1) (.bin .mod (.blt .int (.cons (.idx (.var 1) (.bin .add (.int 110) (.var 2))) .nil)) (.var 22))) .nil))))) .no [("one", 23)]) .nil)) (.cons (.ret (.bl false))
  .nil) .nil)
  .nil)))))))))))))))))))))))))))))))
  (.cons (.ret (.bl true))
  .nil)))
def t_law : Tx := ⟨"law", top 34, ["script", "draws", "turn", "many", "pans", "weights", "ways", "total", "whole", "weight", "times", "heavy", "amount", "few", "both", "new", "more", "own", "due", "size", "powers", "k", "bound", "one"], ["script"], b_law⟩
theorem n_is_whole : BindT t_is_whole := fun _ _ _ _ _ _ us hl => match us, hl with | [_, _, _], _ => rfl
theorem n_ascends : BindT t_ascends := fun _ _ _ _ _ _ us hl => match us, hl with | [_], _ => rfl
theorem n__check_weights : BindT t__check_weights := fun _ _ _ _ _ _ us hl => match us, hl with | [_], _ => rfl
theorem n__check_pans : BindT t__check_pans := fun _ _ _ _ _ _ us hl => match us, hl with | [_], _ => rfl
theorem n__check_amount : BindT t__check_amount := fun _ _ _ _ _ _ us hl => match us, hl with | [_], _ => rfl
theorem n__places : BindT t__places := fun _ _ _ _ _ _ us hl => match us, hl with | [_], _ => rfl
theorem n__counts : BindT t__counts := fun _ _ _ _ _ _ us hl => match us, hl with | [_, _], _ => rfl
theorem n_weighable : BindT t_weighable := fun _ _ _ _ _ _ us hl => match us, hl with | [_, _], _ => rfl
theorem n_ways_to : BindT t_ways_to := fun _ _ _ _ _ _ us hl => match us, hl with | [_, _, _], _ => rfl
theorem n__first : BindT t__first := fun _ _ _ _ _ _ us hl => match us, hl with | [_, _, _], _ => rfl
theorem n_first_way : BindT t_first_way := fun _ _ _ _ _ _ us hl => match us, hl with | [_, _, _], _ => rfl
theorem n_fewest_used : BindT t_fewest_used := fun _ _ _ _ _ _ us hl => match us, hl with | [_, _, _], _ => rfl
theorem n__weighed : BindT t__weighed := fun _ _ _ _ _ _ us hl => match us, hl with | [_, _], _ => rfl
theorem n_way_fault : BindT t_way_fault := fun _ _ _ _ _ _ us hl => match us, hl with | [_, _, _, _], _ => rfl
theorem n__gap : BindT t__gap := fun _ _ _ _ _ _ us hl => match us, hl with | [_, _], _ => rfl
theorem n_gap : BindT t_gap := fun _ _ _ _ _ _ us hl => match us, hl with | [_, _], _ => rfl
theorem n__check_most : BindT t__check_most := fun _ _ _ _ _ _ us hl => match us, hl with | [_], _ => rfl
theorem n_is_enough : BindT t_is_enough := fun _ _ _ _ _ _ us hl => match us, hl with | [_, _, _], _ => rfl
theorem n__law_draws : BindT t__law_draws := fun _ _ _ _ _ _ us hl => match us, hl with | [_, _], _ => rfl
theorem n__law_ways : BindT t__law_ways := fun _ _ _ _ _ _ us hl => match us, hl with | [_, _], _ => rfl
theorem n_law : BindT t_law := fun _ _ _ _ _ _ us hl => match us, hl with | [_], _ => rfl
def inf : Inf := ⟨[("is_whole", 3), ("ascends", 1), ("_check_weights", 1), ("_check_pans", 1), ("_check_amount", 1), ("_places", 1), ("_counts", 2), ("weighable", 2), ("ways_to", 3), ("_first", 3), ("first_way", 3), ("fewest_used", 3), ("_weighed", 2), ("way_fault", 4), ("_gap", 2), ("gap", 2), ("_check_most", 1), ("is_enough", 3), ("_law_draws", 2), ("_law_ways", 2), ("law", 1)], [("MOST_WEIGHTS", (.int 10)), ("MOST_WEIGHT", (.int 10000)), ("MOST_AMOUNT", (.int 100000)), ("MOST_ALL", (.int 1000))], ["abs", "all", "any", "bool", "int", "isinstance", "len", "list", "min", "range", "set", "sorted", "sum", "tuple", "zip"]⟩
def tab : List Tx := [t_is_whole, t_ascends, t__check_weights, t__check_pans, t__check_amount, t__places, t__counts, t_weighable, t_ways_to, t__first, t_first_way, t_fewest_used, t__weighed, t_way_fault, t__gap, t_gap, t__check_most, t_is_enough, t__law_draws, t__law_ways, t_law]
theorem allB : AllB tab := ⟨n_is_whole, n_ascends, n__check_weights, n__check_pans, n__check_amount, n__places, n__counts, n_weighable, n_ways_to, n__first, n_first_way, n_fewest_used, n__weighed, n_way_fault, n__gap, n_gap, n__check_most, n_is_enough, n__law_draws, n__law_ways, n_law, trivial⟩
theorem tabs_ok : tab.all (fun t => t.ok inf) = true := by decide +kernel
end K3
end Bw

namespace Bw.K3
open PySem
abbrev C (k : Nat) : Str → List PyData → Option PyData := callN (glI inf) 100000 (tabOf tab) k
theorem cS {k : Nat} {f : Str} {d : Df} {ds : List PyData} (h : (tabOf tab).lookup f = some d) : C (k + 1) f ds = run1 (glI inf) (C k) 100000 d ds := by
  show callN _ _ _ _ _ _ = _
  unfold callN
  rw [h]
theorem k_is_whole : (tabOf tab).lookup ("is_whole" : Str) = some t_is_whole.df := by rfl
theorem c_is_whole (k : Nat) (v a b : Int) : C (k + 1) "is_whole" [.int v, .int a, .int b] = some (.bool (decide (a ≤ v ∧ v ≤ b))) := by
  rw [cS k_is_whole]
  by_cases h1 : a ≤ v <;> by_cases h2 : v ≤ b <;> simp [run1, t_is_whole, Tx.df, b_is_whole, e_non, e_bl, e_int, e_str, e_var, e_glob, e_bin, e_neg, e_cmp, e_isN, e_notN, e_chain, e_and_, e_or_, e_not_, e_ite, e_tup, e_lst, e_idx, e_sl, e_rev, e_sset, e_rng, e_call, e_callv, e_blt, e_isi, e_dis, e_dget, z_frz, z_app, z_ext, z_drop, z_set, z_setT, z_par, z_aug, z_put, z_augPut, z_ite, z_ret, z_retN, z_pass, z_brk, z_cont, z_never, z_nil, z_cons, evAnd, evOr, evF, evV, evKV, evI, evC, evP, seqF, setS, varOf, parS, augS, augI, appS, extS, putS, frzL, frzR, bindT, bindL, wipeR, kz, bz, oneI, dBin, dCmp, cLt, cLe, cGt, cGe, cEq_int, cNe_int, dIdx, dBi, bLen, bAbs, bInt, bSum, bMin, bMax, bAny, bAll, bSorted, bList, bTuple, isiD, noneB, fewD, dSl, Option.bind_some, Option.map_some, Option.bind_none, Option.map_none, isKey, keyD, zipD, intsD_map, boolsD_map, h1, h2]
theorem k__places : (tabOf tab).lookup ("_places" : Str) = some t__places.df := by rfl
def pl (p : Int) : List Int := if p = 1 then [0, 1] else [-1, 0, 1]
theorem c__places (k : Nat) (p : Int) : C (k + 1) "_places" [.int p] = some (tpI (pl p)) := by
  rw [cS k__places]
  by_cases h : p = 1 <;> simp [run1, t__places, Tx.df, b__places, e_non, e_bl, e_int, e_str, e_var, e_glob, e_bin, e_neg, e_cmp, e_isN, e_notN, e_chain, e_and_, e_or_, e_not_, e_ite, e_tup, e_lst, e_idx, e_sl, e_rev, e_sset, e_rng, e_call, e_callv, e_blt, e_isi, e_dis, e_dget, z_frz, z_app, z_ext, z_drop, z_set, z_setT, z_par, z_aug, z_put, z_augPut, z_ite, z_ret, z_retN, z_pass, z_brk, z_cont, z_never, z_nil, z_cons, evAnd, evOr, evF, evV, evKV, evI, evC, evP, seqF, setS, varOf, parS, augS, augI, appS, extS, putS, frzL, frzR, bindT, bindL, wipeR, kz, bz, oneI, dBin, dCmp, cLt, cLe, cGt, cGe, cEq_int, cNe_int, dIdx, dBi, bLen, bAbs, bInt, bSum, bMin, bMax, bAny, bAll, bSorted, bList, bTuple, isiD, noneB, fewD, dSl, Option.bind_some, Option.map_some, Option.bind_none, Option.map_none, isKey, keyD, zipD, intsD_map, boolsD_map, h, pl, tpI]
theorem k__check_pans : (tabOf tab).lookup ("_check_pans" : Str) = some t__check_pans.df := by rfl
theorem c__check_pans (k : Nat) (p : Int) (h : p = 1 ∨ p = 2) : C (k + 2) "_check_pans" [.int p] = some .none := by
  rw [cS k__check_pans]
  have e : decide (1 ≤ p ∧ p ≤ 2) = true := by simp; omega
  simp [run1, t__check_pans, Tx.df, b__check_pans, e_non, e_bl, e_int, e_str, e_var, e_glob, e_bin, e_neg, e_cmp, e_isN, e_notN, e_chain, e_and_, e_or_, e_not_, e_ite, e_tup, e_lst, e_idx, e_sl, e_rev, e_sset, e_rng, e_call, e_callv, e_blt, e_isi, e_dis, e_dget, z_frz, z_app, z_ext, z_drop, z_set, z_setT, z_par, z_aug, z_put, z_augPut, z_ite, z_ret, z_retN, z_pass, z_brk, z_cont, z_never, z_nil, z_cons, evAnd, evOr, evF, evV, evKV, evI, evC, evP, seqF, setS, varOf, parS, augS, augI, appS, extS, putS, frzL, frzR, bindT, bindL, wipeR, kz, bz, oneI, dBin, dCmp, cLt, cLe, cGt, cGe, cEq_int, cNe_int, dIdx, dBi, bLen, bAbs, bInt, bSum, bMin, bMax, bAny, bAll, bSorted, bList, bTuple, isiD, noneB, fewD, dSl, Option.bind_some, Option.map_some, Option.bind_none, Option.map_none, isKey, keyD, zipD, intsD_map, boolsD_map, c_is_whole, e]
theorem g_amount : glI inf "MOST_AMOUNT" = some (.int 100000) := by rfl
theorem g_weight : glI inf "MOST_WEIGHT" = some (.int 10000) := by rfl
theorem g_weights : glI inf "MOST_WEIGHTS" = some (.int 10) := by rfl
theorem g_all : glI inf "MOST_ALL" = some (.int 1000) := by rfl
theorem k__check_amount : (tabOf tab).lookup ("_check_amount" : Str) = some t__check_amount.df := by rfl
theorem c__check_amount (k : Nat) (p : Int) (h1 : 1 ≤ p) (h2 : p ≤ 100000) : C (k + 2) "_check_amount" [.int p] = some .none := by
  rw [cS k__check_amount]
  have e : decide (1 ≤ p ∧ p ≤ 100000) = true := by simp; omega
  simp [run1, t__check_amount, Tx.df, b__check_amount, e_non, e_bl, e_int, e_str, e_var, e_glob, e_bin, e_neg, e_cmp, e_isN, e_notN, e_chain, e_and_, e_or_, e_not_, e_ite, e_tup, e_lst, e_idx, e_sl, e_rev, e_sset, e_rng, e_call, e_callv, e_blt, e_isi, e_dis, e_dget, z_frz, z_app, z_ext, z_drop, z_set, z_setT, z_par, z_aug, z_put, z_augPut, z_ite, z_ret, z_retN, z_pass, z_brk, z_cont, z_never, z_nil, z_cons, evAnd, evOr, evF, evV, evKV, evI, evC, evP, seqF, setS, varOf, parS, augS, augI, appS, extS, putS, frzL, frzR, bindT, bindL, wipeR, kz, bz, oneI, dBin, dCmp, cLt, cLe, cGt, cGe, cEq_int, cNe_int, dIdx, dBi, bLen, bAbs, bInt, bSum, bMin, bMax, bAny, bAll, bSorted, bList, bTuple, isiD, noneB, fewD, dSl, Option.bind_some, Option.map_some, Option.bind_none, Option.map_none, isKey, keyD, zipD, intsD_map, boolsD_map, c_is_whole, e, g_amount]
theorem k__check_most : (tabOf tab).lookup ("_check_most" : Str) = some t__check_most.df := by rfl
theorem c__check_most (k : Nat) (p : Int) (h1 : 1 ≤ p) (h2 : p ≤ 1000) : C (k + 2) "_check_most" [.int p] = some .none := by
  rw [cS k__check_most]
  have e : decide (1 ≤ p ∧ p ≤ 1000) = true := by simp; omega
  simp [run1, t__check_most, Tx.df, b__check_most, e_non, e_bl, e_int, e_str, e_var, e_glob, e_bin, e_neg, e_cmp, e_isN, e_notN, e_chain, e_and_, e_or_, e_not_, e_ite, e_tup, e_lst, e_idx, e_sl, e_rev, e_sset, e_rng, e_call, e_callv, e_blt, e_isi, e_dis, e_dget, z_frz, z_app, z_ext, z_drop, z_set, z_setT, z_par, z_aug, z_put, z_augPut, z_ite, z_ret, z_retN, z_pass, z_brk, z_cont, z_never, z_nil, z_cons, evAnd, evOr, evF, evV, evKV, evI, evC, evP, seqF, setS, varOf, parS, augS, augI, appS, extS, putS, frzL, frzR, bindT, bindL, wipeR, kz, bz, oneI, dBin, dCmp, cLt, cLe, cGt, cGe, cEq_int, cNe_int, dIdx, dBi, bLen, bAbs, bInt, bSum, bMin, bMax, bAny, bAll, bSorted, bList, bTuple, isiD, noneB, fewD, dSl, Option.bind_some, Option.map_some, Option.bind_none, Option.map_none, isKey, keyD, zipD, intsD_map, boolsD_map, c_is_whole, e, g_all]
theorem sIx_some (n : Nat) (i : Nat) (d : Nat) (h : i ≤ n) : HT.sIx n d (some (i : Int)) = i := by
  unfold HT.sIx; simp only []; split <;> omega
theorem sIx_none (n d : Nat) : HT.sIx n d none = d := by rfl
theorem cut1 (ws : List Int) (h : 1 ≤ ws.length) : cutD (ws.map .int) (some 1) none = (ws.drop 1).map .int := by
  unfold cutD
  rw [List.length_map, show ((1 : Int)) = ((1 : Nat) : Int) from rfl, sIx_some _ 1 _ h, sIx_none, ← List.map_drop, List.take_of_length_le (by rw [List.length_map, List.length_drop]; omega)]
def pr (p : Int × Int) : PyData := .tuple [.int p.1, .int p.2]
theorem zip_int : ∀ a b : List Int, zipD (a.map .int) (b.map .int) = (a.zip b).map pr
  | [], _ => by simp [zipD]
  | _ :: _, [] => by simp [zipD]
  | x :: a, y :: b => by simp [zipD, zip_int a b, pr]
theorem asc_zip : ∀ {l : List Int}, l.Pairwise (· < ·) → ∀ p ∈ l.zip (l.drop 1), p.1 < p.2
  | [], _, p, h => by simp at h
  | [x], _, p, h => by simp at h
  | x :: y :: l, hp, p, h => by
    obtain ⟨h1, h2⟩ := List.pairwise_cons.mp hp
    simp only [List.drop_succ_cons, List.drop_zero, List.zip_cons_cons, List.mem_cons] at h
    rcases h with rfl | h
    · exact h1 y (List.mem_cons_self ..)
    · exact asc_zip h2 p (by simpa using h)
theorem k_ascends : (tabOf tab).lookup ("ascends" : Str) = some t_ascends.df := by rfl
theorem c_ascends (k : Nat) (ws : List Int) (h0 : 1 ≤ ws.length) (h9 : ws.length ≤ 1000) (h : ws.Pairwise (· < ·)) : C (k + 1) "ascends" [tpI ws] = some (.bool true) := by
  rw [cS k_ascends]
  have hl : (ws.zip (ws.drop 1)).length ≤ 100000 := by rw [List.length_zip]; omega
  have hc := e_comp0 (gl := glI inf) (c := C k) (ρ := [some (false, tpI ws), none, none]) (elt := .cmp .lt (.var 1) (.var 2)) (tg := .tp 2 (.cons (.nm 1) (.cons (.nm 2) .nil))) (it := .zip2 (.var 0) (.sl (.var 0) (.int 1) .no)) (own := [("one", 1), ("later", 2)]) (b := false) (l := ws.zip (ws.drop 1)) pr (fun p => .bool (decide (p.1 < p.2)))
    (by simp only [e_non, e_bl, e_int, e_str, e_var, e_glob, e_bin, e_neg, e_cmp, e_isN, e_notN, e_chain, e_and_, e_or_, e_not_, e_ite, e_tup, e_lst, e_idx, e_sl, e_rev, e_sset, e_rng, e_call, e_callv, e_blt, e_isi, e_dis, e_dget, z_frz, z_app, z_ext, z_drop, z_set, z_setT, z_par, z_aug, z_put, z_augPut, z_ite, z_ret, z_retN, z_pass, z_brk, z_cont, z_never, z_nil, z_cons, evAnd, evOr, evF, evV, evKV, evI, evC, evP, seqF, setS, varOf, parS, augS, augI, appS, extS, putS, frzL, frzR, bindT, bindL, wipeR, kz, bz, oneI, dBin, dCmp, cLt, cLe, cGt, cGe, cEq_int, cNe_int, dIdx, dBi, bLen, bAbs, bInt, bSum, bMin, bMax, bAny, bAll, bSorted, bList, bTuple, isiD, noneB, fewD, dSl, Option.bind_some, Option.map_some, Option.bind_none, Option.map_none, isKey, keyD, zipD, intsD_map, boolsD_map, boolsD_mapf, intsD_mapf, Option.isSome_some, Nat.reduceLeDiff, Nat.zero_le, List.foldl_nil, List.length_cons, List.length_nil, List.length_map, List.map_cons, List.map_nil, List.cons_append, List.nil_append, List.replicate, List.getElem?_cons_zero, List.getElem?_cons_succ, List.set_cons_zero, List.set_cons_succ, ↓reduceIte, Bool.not_true, Bool.not_false, and_self, and_true, true_and, Bool.false_eq_true, reduceCtorEq, decide_true, decide_false, Nat.reduceAdd, Nat.reduceLT, Nat.reduceSub, Nat.reduceEqDiff, ne_eq, not_true_eq_false, not_false_eq_true, Option.some.injEq, exists_eq_left, Int.reduceNeg, beq_self_eq_true, Nat.zero_add, Nat.add_zero, tpI, cut1 ws h0, zip_int]) hl (fun p hp => by simp [e_non, e_bl, e_int, e_str, e_var, e_glob, e_bin, e_neg, e_cmp, e_isN, e_notN, e_chain, e_and_, e_or_, e_not_, e_ite, e_tup, e_lst, e_idx, e_sl, e_rev, e_sset, e_rng, e_call, e_callv, e_blt, e_isi, e_dis, e_dget, z_frz, z_app, z_ext, z_drop, z_set, z_setT, z_par, z_aug, z_put, z_augPut, z_ite, z_ret, z_retN, z_pass, z_brk, z_cont, z_never, z_nil, z_cons, evAnd, evOr, evF, evV, evKV, evI, evC, evP, seqF, setS, varOf, parS, augS, augI, appS, extS, putS, frzL, frzR, bindT, bindL, wipeR, kz, bz, oneI, dBin, dCmp, cLt, cLe, cGt, cGe, cEq_int, cNe_int, dIdx, dBi, bLen, bAbs, bInt, bSum, bMin, bMax, bAny, bAll, bSorted, bList, bTuple, isiD, noneB, fewD, dSl, Option.bind_some, Option.map_some, Option.bind_none, Option.map_none, isKey, keyD, zipD, intsD_map, boolsD_map, pr])
  have a : (((ws.zip (ws.drop 1)).map fun p => decide (p.1 < p.2)).all id) = true := by
    rw [List.all_map, List.all_eq_true]
    intro p hp
    simpa using asc_zip h p hp
  simp only [run1, t_ascends, Tx.df, b_ascends, e_non, e_bl, e_int, e_str, e_var, e_glob, e_bin, e_neg, e_cmp, e_isN, e_notN, e_chain, e_and_, e_or_, e_not_, e_ite, e_tup, e_lst, e_idx, e_sl, e_rev, e_sset, e_rng, e_call, e_callv, e_blt, e_isi, e_dis, e_dget, z_frz, z_app, z_ext, z_drop, z_set, z_setT, z_par, z_aug, z_put, z_augPut, z_ite, z_ret, z_retN, z_pass, z_brk, z_cont, z_never, z_nil, z_cons, evAnd, evOr, evF, evV, evKV, evI, evC, evP, seqF, setS, varOf, parS, augS, augI, appS, extS, putS, frzL, frzR, bindT, bindL, wipeR, kz, bz, oneI, dBin, dCmp, cLt, cLe, cGt, cGe, cEq_int, cNe_int, dIdx, dBi, bLen, bAbs, bInt, bSum, bMin, bMax, bAny, bAll, bSorted, bList, bTuple, isiD, noneB, fewD, dSl, Option.bind_some, Option.map_some, Option.bind_none, Option.map_none, isKey, keyD, zipD, intsD_map, boolsD_map, boolsD_mapf, intsD_mapf, Option.isSome_some, Nat.reduceLeDiff, Nat.zero_le, List.foldl_nil, List.length_cons, List.length_nil, List.length_map, List.map_cons, List.map_nil, List.cons_append, List.nil_append, List.replicate, List.getElem?_cons_zero, List.getElem?_cons_succ, List.set_cons_zero, List.set_cons_succ, ↓reduceIte, Bool.not_true, Bool.not_false, and_self, and_true, true_and, Bool.false_eq_true, reduceCtorEq, decide_true, decide_false, Nat.reduceAdd, Nat.reduceLT, Nat.reduceSub, Nat.reduceEqDiff, ne_eq, not_true_eq_false, not_false_eq_true, Option.some.injEq, exists_eq_left, Int.reduceNeg, beq_self_eq_true, Nat.zero_add, Nat.add_zero, hc, a]
structure Wok (ws : List Int) : Prop where
  asc : ws.Pairwise (· < ·)
  rng : ∀ w ∈ ws, 1 ≤ w ∧ w ≤ 10000
  len : 1 ≤ ws.length ∧ ws.length ≤ 10
theorem k__check_weights : (tabOf tab).lookup ("_check_weights" : Str) = some t__check_weights.df := by rfl
theorem c__check_weights (k : Nat) (ws : List Int) (h : Wok ws) : C (k + 2) "_check_weights" [tpI ws] = some .none := by
  rw [cS k__check_weights]
  have hc := e_comp0 (gl := glI inf) (c := C (k + 1)) (ρ := [some (false, tpI ws), none]) (elt := .call "is_whole" (.cons (.var 1) (.cons (.int 1) (.cons (.glob "MOST_WEIGHT") .nil)))) (tg := .nm 1) (it := .over (.var 0)) (own := [("one", 1)]) (b := false) (l := ws) .int (fun p => .bool (decide (1 ≤ p ∧ p ≤ 10000)))
    (by simp [e_non, e_bl, e_int, e_str, e_var, e_glob, e_bin, e_neg, e_cmp, e_isN, e_notN, e_chain, e_and_, e_or_, e_not_, e_ite, e_tup, e_lst, e_idx, e_sl, e_rev, e_sset, e_rng, e_call, e_callv, e_blt, e_isi, e_dis, e_dget, z_frz, z_app, z_ext, z_drop, z_set, z_setT, z_par, z_aug, z_put, z_augPut, z_ite, z_ret, z_retN, z_pass, z_brk, z_cont, z_never, z_nil, z_cons, evAnd, evOr, evF, evV, evKV, evI, evC, evP, seqF, setS, varOf, parS, augS, augI, appS, extS, putS, frzL, frzR, bindT, bindL, wipeR, kz, bz, oneI, dBin, dCmp, cLt, cLe, cGt, cGe, cEq_int, cNe_int, dIdx, dBi, bLen, bAbs, bInt, bSum, bMin, bMax, bAny, bAll, bSorted, bList, bTuple, isiD, noneB, fewD, dSl, Option.bind_some, Option.map_some, Option.bind_none, Option.map_none, isKey, keyD, zipD, intsD_map, boolsD_map, tpI]) (by have := h.len; omega) (fun p hp => by simp [e_non, e_bl, e_int, e_str, e_var, e_glob, e_bin, e_neg, e_cmp, e_isN, e_notN, e_chain, e_and_, e_or_, e_not_, e_ite, e_tup, e_lst, e_idx, e_sl, e_rev, e_sset, e_rng, e_call, e_callv, e_blt, e_isi, e_dis, e_dget, z_frz, z_app, z_ext, z_drop, z_set, z_setT, z_par, z_aug, z_put, z_augPut, z_ite, z_ret, z_retN, z_pass, z_brk, z_cont, z_never, z_nil, z_cons, evAnd, evOr, evF, evV, evKV, evI, evC, evP, seqF, setS, varOf, parS, augS, augI, appS, extS, putS, frzL, frzR, bindT, bindL, wipeR, kz, bz, oneI, dBin, dCmp, cLt, cLe, cGt, cGe, cEq_int, cNe_int, dIdx, dBi, bLen, bAbs, bInt, bSum, bMin, bMax, bAny, bAll, bSorted, bList, bTuple, isiD, noneB, fewD, dSl, Option.bind_some, Option.map_some, Option.bind_none, Option.map_none, isKey, keyD, zipD, intsD_map, boolsD_map, c_is_whole, g_weight])
  have a : ((ws.map fun p => decide (1 ≤ p ∧ p ≤ 10000)).all id) = true := by
    rw [List.all_map, List.all_eq_true]
    intro p hp
    simpa using h.rng p hp
  have h1 : (1 : Int) ≤ ws.length := by have := h.len; omega
  have h2 : (ws.length : Int) ≤ 10 := by have := h.len; omega
  have as := c_ascends k ws h.len.1 (by have := h.len; omega) h.asc
  simp only [tpI] at hc as ⊢
  simp only [run1, t__check_weights, Tx.df, b__check_weights, e_non, e_bl, e_int, e_str, e_var, e_glob, e_bin, e_neg, e_cmp, e_isN, e_notN, e_chain, e_and_, e_or_, e_not_, e_ite, e_tup, e_lst, e_idx, e_sl, e_rev, e_sset, e_rng, e_call, e_callv, e_blt, e_isi, e_dis, e_dget, z_frz, z_app, z_ext, z_drop, z_set, z_setT, z_par, z_aug, z_put, z_augPut, z_ite, z_ret, z_retN, z_pass, z_brk, z_cont, z_never, z_nil, z_cons, evAnd, evOr, evF, evV, evKV, evI, evC, evP, seqF, setS, varOf, parS, augS, augI, appS, extS, putS, frzL, frzR, bindT, bindL, wipeR, kz, bz, oneI, dBin, dCmp, cLt, cLe, cGt, cGe, cEq_int, cNe_int, dIdx, dBi, bLen, bAbs, bInt, bSum, bMin, bMax, bAny, bAll, bSorted, bList, bTuple, isiD, noneB, fewD, dSl, Option.bind_some, Option.map_some, Option.bind_none, Option.map_none, isKey, keyD, zipD, intsD_map, boolsD_map, boolsD_mapf, intsD_mapf, Option.isSome_some, Nat.reduceLeDiff, Nat.zero_le, List.foldl_nil, List.length_cons, List.length_nil, List.length_map, List.map_cons, List.map_nil, List.cons_append, List.nil_append, List.replicate, List.getElem?_cons_zero, List.getElem?_cons_succ, List.set_cons_zero, List.set_cons_succ, ↓reduceIte, Bool.not_true, Bool.not_false, and_self, and_true, true_and, Bool.false_eq_true, reduceCtorEq, decide_true, decide_false, Nat.reduceAdd, Nat.reduceLT, Nat.reduceSub, Nat.reduceEqDiff, ne_eq, not_true_eq_false, not_false_eq_true, Option.some.injEq, exists_eq_left, Int.reduceNeg, beq_self_eq_true, Nat.zero_add, Nat.add_zero, hc, a, as, g_weights, h1, h2]
/-! _counts -/
def addP (L : List (Int × Int)) (w o : Int) (la : List (Int × Int)) (q : Int) : List (Int × Int) := putI la (o + q * w) ((getI la (o + q * w)).getD 0 + (getI L o).getD 0)
def stepL (p : Int) (L : List (Int × Int)) (w : Int) : List (Int × Int) := (L.map (·.1)).foldl (fun la o => (pl p).foldl (addP L w o) la) []
def countsL (ws : List Int) (p : Int) : List (Int × Int) := ws.foldl (stepL p) [(0, 1)]
abbrev dct (L : List (Int × Int)) : PyData := .dict (kvI .int L)
theorem log_le (n : Nat) : n.log2 ≤ n := Nat.log2_le_self n
theorem mul_ok {i j : Int} (h1 : -400000 ≤ i) (h2 : i ≤ 400000) (h3 : -400000 ≤ j) (h4 : j ≤ 400000) : i.natAbs.log2 + j.natAbs.log2 < 1000000 := by
  have := log_le i.natAbs
  have := log_le j.natAbs
  omega
theorem pl_rng {p q : Int} (h : q ∈ pl p) : -1 ≤ q ∧ q ≤ 1 := by
  unfold pl at h
  split at h <;> simp at h <;> omega
theorem pl_len (p : Int) : (pl p).length ≤ 3 := by
  unfold pl
  split <;> simp
theorem addP_len (L : List (Int × Int)) (w o : Int) : ∀ (qs : List Int) (la : List (Int × Int)), (qs.foldl (addP L w o) la).length ≤ la.length + qs.length
  | [], la => by simp
  | q :: qs, la => by
    have h1 := addP_len L w o qs (addP L w o la q)
    have h2 := putI_length la (o + q * w) ((getI la (o + q * w)).getD 0 + (getI L o).getD 0)
    rw [List.foldl_cons, List.length_cons]
    unfold addP at h1 ⊢
    omega
theorem inner_len (p : Int) (L : List (Int × Int)) (w : Int) : ∀ (os : List Int) (la : List (Int × Int)), (os.foldl (fun la o => (pl p).foldl (addP L w o) la) la).length ≤ la.length + 3 * os.length
  | [], la => by simp
  | o :: os, la => by
    have h1 := inner_len p L w os ((pl p).foldl (addP L w o) la)
    have h2 := addP_len L w o (pl p) la
    have h3 := pl_len p
    rw [List.foldl_cons, List.length_cons]
    omega
theorem stepL_len (p : Int) (L : List (Int × Int)) (w : Int) : (stepL p L w).length ≤ 3 * L.length := by
  have := inner_len p L w (L.map (·.1)) []
  unfold stepL
  rw [List.length_map] at this
  simpa using this
def lp3 : Sm := (.for_ (.nm 6) (.over (.call "_places" (.cons (.var 1) .nil))) (.cons (.set 7 (.bin .add (.var 5) (.bin .mul (.var 6) (.var 3))))
  (.cons (.frz [7])
  (.cons (.put 4 (.var 7) (.bin .add (.dget (.var 4) (.var 7) (.int 0)) (.idx (.var 2) (.var 5))))
  .nil))))
theorem e_lp3 (k : Nat) (W : PyData) (p w o : Int) (L la : List (Int × Int)) (a b : Option (Bool × PyData)) (hw : -400000 ≤ w ∧ w ≤ 400000) (ho : (getI L o).isSome = true) (hla : la.length ≤ 90000) :
    ∃ a' b', evS (glI inf) (C (k + 1)) 100000 lp3 [some (false, W), some (false, .int p), some (false, dct L), some (false, .int w), some (true, dct la), some (false, .int o), a, b] =
      some (.nx [some (false, W), some (false, .int p), some (false, dct L), some (false, .int w), some (true, dct ((pl p).foldl (addP L w o) la)), some (false, .int o), a', b']) := by
  obtain ⟨v, hv⟩ := Option.isSome_iff_exists.mp ho
  have z := z_for (gl := glI inf) (c := C (k + 1)) (n := 100000) (ρ := [some (false, W), some (false, .int p), some (false, dct L), some (false, .int w), some (true, dct la), some (false, .int o), a, b]) (t := .nm 6) (it := .over (.call "_places" (.cons (.var 1) .nil)))
    (b := (.cons (.set 7 (.bin .add (.var 5) (.bin .mul (.var 6) (.var 3)))) (.cons (.frz [7]) (.cons (.put 4 (.var 7) (.bin .add (.dget (.var 4) (.var 7) (.int 0)) (.idx (.var 2) (.var 5)))) .nil)))) (l := pl p) .int
    (fun rest ρ => ∃ la' a' b', ρ = [some (false, W), some (false, .int p), some (false, dct L), some (false, .int w), some (true, dct la'), some (false, .int o), a', b'] ∧ la'.length + rest.length ≤ 90003 ∧ rest.foldl (addP L w o) la' = (pl p).foldl (addP L w o) la ∧ ∀ q ∈ rest, -1 ≤ q ∧ q ≤ 1)
    (by simp only [e_non, e_bl, e_int, e_str, e_var, e_glob, e_bin, e_neg, e_cmp, e_isN, e_notN, e_chain, e_and_, e_or_, e_not_, e_ite, e_tup, e_lst, e_idx, e_sl, e_rev, e_sset, e_rng, e_call, e_callv, e_blt, e_isi, e_dis, e_dget, z_frz, z_app, z_ext, z_drop, z_set, z_setT, z_par, z_aug, z_put, z_augPut, z_ite, z_ret, z_retN, z_pass, z_brk, z_cont, z_never, z_nil, z_cons, evAnd, evOr, evF, evV, evKV, evI, evC, evP, seqF, setS, varOf, parS, augS, augI, appS, extS, putS, frzL, frzR, bindT, bindL, wipeR, kz, bz, oneI, dBin, dCmp, cLt, cLe, cGt, cGe, cEq_int, cNe_int, dIdx, dBi, bLen, bAbs, bInt, bSum, bMin, bMax, bAny, bAll, bSorted, bList, bTuple, isiD, noneB, fewD, dSl, Option.bind_some, Option.map_some, Option.bind_none, Option.map_none, isKey, keyD, zipD, intsD_map, boolsD_map, boolsD_mapf, intsD_mapf, Option.isSome_some, Nat.reduceLeDiff, Nat.zero_le, List.foldl_nil, List.length_cons, List.length_nil, List.length_map, List.map_cons, List.map_nil, List.cons_append, List.nil_append, List.replicate, List.getElem?_cons_zero, List.getElem?_cons_succ, List.set_cons_zero, List.set_cons_succ, ↓reduceIte, Bool.not_true, Bool.not_false, and_self, and_true, true_and, Bool.false_eq_true, reduceCtorEq, decide_true, decide_false, Nat.reduceAdd, Nat.reduceLT, Nat.reduceSub, Nat.reduceEqDiff, ne_eq, not_true_eq_false, not_false_eq_true, Option.some.injEq, exists_eq_left, Int.reduceNeg, beq_self_eq_true, Nat.zero_add, Nat.add_zero, c__places, tpI, beq_iff_eq]) ⟨la, a, b, rfl, by have := pl_len p; omega, rfl, fun q hq => pl_rng hq⟩ ?_
  · obtain ⟨ρ', h1, la', a', b', h2, _, h3, _⟩ := z
    subst h2
    simp only [List.foldl_nil] at h3
    subst h3
    exact ⟨a', b', h1⟩
  · rintro q r ρ ⟨la', a', b', rfl, hl, hf, hq⟩
    have hq1 := hq q (List.mem_cons_self ..)
    have m := mul_ok (i := q) (j := w) (by omega) (by omega) hw.1 hw.2
    have e0 : lookD (kvI .int L) (.int o) = some (.int v) := by rw [lookD_int, hv]; rfl
    rw [List.length_cons] at hl
    have hl2 : la'.length < 100000 := by omega
    refine ⟨_, [some (false, W), some (false, .int p), some (false, dct L), some (false, .int w), some (true, dct (addP L w o la' q)), some (false, .int o), some (false, .int q), some (false, .int (o + q * w))], by simp only [e_non, e_bl, e_int, e_str, e_var, e_glob, e_bin, e_neg, e_cmp, e_isN, e_notN, e_chain, e_and_, e_or_, e_not_, e_ite, e_tup, e_lst, e_idx, e_sl, e_rev, e_sset, e_rng, e_call, e_callv, e_blt, e_isi, e_dis, e_dget, z_frz, z_app, z_ext, z_drop, z_set, z_setT, z_par, z_aug, z_put, z_augPut, z_ite, z_ret, z_retN, z_pass, z_brk, z_cont, z_never, z_nil, z_cons, evAnd, evOr, evF, evV, evKV, evI, evC, evP, seqF, setS, varOf, parS, augS, augI, appS, extS, putS, frzL, frzR, bindT, bindL, wipeR, kz, bz, oneI, dBin, dCmp, cLt, cLe, cGt, cGe, cEq_int, cNe_int, dIdx, dBi, bLen, bAbs, bInt, bSum, bMin, bMax, bAny, bAll, bSorted, bList, bTuple, isiD, noneB, fewD, dSl, Option.bind_some, Option.map_some, Option.bind_none, Option.map_none, isKey, keyD, zipD, intsD_map, boolsD_map, boolsD_mapf, intsD_mapf, Option.isSome_some, Nat.reduceLeDiff, Nat.zero_le, List.foldl_nil, List.length_cons, List.length_nil, List.length_map, List.map_cons, List.map_nil, List.cons_append, List.nil_append, List.replicate, List.getElem?_cons_zero, List.getElem?_cons_succ, List.set_cons_zero, List.set_cons_succ, ↓reduceIte, Bool.not_true, Bool.not_false, and_self, and_true, true_and, Bool.false_eq_true, reduceCtorEq, decide_true, decide_false, Nat.reduceAdd, Nat.reduceLT, Nat.reduceSub, Nat.reduceEqDiff, ne_eq, not_true_eq_false, not_false_eq_true, Option.some.injEq, exists_eq_left, Int.reduceNeg, beq_self_eq_true, Nat.zero_add, Nat.add_zero]; rfl, .inl ?_, addP L w o la' q, _, _, rfl, ?_, hf, fun x hx => hq x (List.mem_cons_of_mem _ hx)⟩
    · have e1 : (lookD (kvI .int la') (.int (o + q * w))).getD (.int 0) = .int ((getI la' (o + q * w)).getD 0) := by
        rw [lookD_int]; cases getI la' (o + q * w) <;> rfl
      have e2 : putD (kvI .int la') (.int (o + q * w)) (.int ((getI la' (o + q * w)).getD 0 + v)) = kvI .int (addP L w o la' q) := by
        unfold addP
        rw [hv, Option.getD_some, ← putD_int]
      simp only [e_non, e_bl, e_int, e_str, e_var, e_glob, e_bin, e_neg, e_cmp, e_isN, e_notN, e_chain, e_and_, e_or_, e_not_, e_ite, e_tup, e_lst, e_idx, e_sl, e_rev, e_sset, e_rng, e_call, e_callv, e_blt, e_isi, e_dis, e_dget, z_frz, z_app, z_ext, z_drop, z_set, z_setT, z_par, z_aug, z_put, z_augPut, z_ite, z_ret, z_retN, z_pass, z_brk, z_cont, z_never, z_nil, z_cons, evAnd, evOr, evF, evV, evKV, evI, evC, evP, seqF, setS, varOf, parS, augS, augI, appS, extS, putS, frzL, frzR, bindT, bindL, wipeR, kz, bz, oneI, dBin, dCmp, cLt, cLe, cGt, cGe, cEq_int, cNe_int, dIdx, dBi, bLen, bAbs, bInt, bSum, bMin, bMax, bAny, bAll, bSorted, bList, bTuple, isiD, noneB, fewD, dSl, Option.bind_some, Option.map_some, Option.bind_none, Option.map_none, isKey, keyD, zipD, intsD_map, boolsD_map, boolsD_mapf, intsD_mapf, Option.isSome_some, Nat.reduceLeDiff, Nat.zero_le, List.foldl_nil, List.length_cons, List.length_nil, List.length_map, List.map_cons, List.map_nil, List.cons_append, List.nil_append, List.replicate, List.getElem?_cons_zero, List.getElem?_cons_succ, List.set_cons_zero, List.set_cons_succ, ↓reduceIte, Bool.not_true, Bool.not_false, and_self, and_true, true_and, Bool.false_eq_true, reduceCtorEq, decide_true, decide_false, Nat.reduceAdd, Nat.reduceLT, Nat.reduceSub, Nat.reduceEqDiff, ne_eq, not_true_eq_false, not_false_eq_true, Option.some.injEq, exists_eq_left, Int.reduceNeg, beq_self_eq_true, Nat.zero_add, Nat.add_zero, m, realD_int, e0, e1, e2, Option.isSome_some, kvI_length, hl2]
    · unfold addP
      have := putI_length la' (o + q * w) ((getI la' (o + q * w)).getD 0 + (getI L o).getD 0)
      omega
def lp2 : Sm := (.for_ (.nm 5) (.over (.var 2)) (.cons lp3 .nil))
theorem e_lp2 (k : Nat) (W : PyData) (p w : Int) (L : List (Int × Int)) (a b d : Option (Bool × PyData)) (hw : -400000 ≤ w ∧ w ≤ 400000) (hL : L.length ≤ 30000) :
    ∃ a' b' d', evS (glI inf) (C (k + 1)) 100000 lp2 [some (false, W), some (false, .int p), some (false, dct L), some (false, .int w), some (true, dct []), a, b, d] =
      some (.nx [some (false, W), some (false, .int p), some (false, dct L), some (false, .int w), some (true, dct (stepL p L w)), a', b', d']) := by
  have z := z_for (gl := glI inf) (c := C (k + 1)) (n := 100000) (ρ := [some (false, W), some (false, .int p), some (false, dct L), some (false, .int w), some (true, dct []), a, b, d]) (t := .nm 5) (it := .over (.var 2))
    (b := (.cons lp3 .nil)) (l := L.map (·.1)) .int
    (fun rest ρ => ∃ la' a' b' d', ρ = [some (false, W), some (false, .int p), some (false, dct L), some (false, .int w), some (true, dct la'), a', b', d'] ∧ la'.length + 3 * rest.length ≤ 90000 ∧ rest.foldl (fun la o => (pl p).foldl (addP L w o) la) la' = stepL p L w ∧ ∀ q ∈ rest, (getI L q).isSome = true)
    (by simp only [e_non, e_bl, e_int, e_str, e_var, e_glob, e_bin, e_neg, e_cmp, e_isN, e_notN, e_chain, e_and_, e_or_, e_not_, e_ite, e_tup, e_lst, e_idx, e_sl, e_rev, e_sset, e_rng, e_call, e_callv, e_blt, e_isi, e_dis, e_dget, z_frz, z_app, z_ext, z_drop, z_set, z_setT, z_par, z_aug, z_put, z_augPut, z_ite, z_ret, z_retN, z_pass, z_brk, z_cont, z_never, z_nil, z_cons, evAnd, evOr, evF, evV, evKV, evI, evC, evP, seqF, setS, varOf, parS, augS, augI, appS, extS, putS, frzL, frzR, bindT, bindL, wipeR, kz, bz, oneI, dBin, dCmp, cLt, cLe, cGt, cGe, cEq_int, cNe_int, dIdx, dBi, bLen, bAbs, bInt, bSum, bMin, bMax, bAny, bAll, bSorted, bList, bTuple, isiD, noneB, fewD, dSl, Option.bind_some, Option.map_some, Option.bind_none, Option.map_none, isKey, keyD, zipD, intsD_map, boolsD_map, boolsD_mapf, intsD_mapf, Option.isSome_some, Nat.reduceLeDiff, Nat.zero_le, List.foldl_nil, List.length_cons, List.length_nil, List.length_map, List.map_cons, List.map_nil, List.cons_append, List.nil_append, List.replicate, List.getElem?_cons_zero, List.getElem?_cons_succ, List.set_cons_zero, List.set_cons_succ, ↓reduceIte, Bool.not_true, Bool.not_false, and_self, and_true, true_and, Bool.false_eq_true, reduceCtorEq, decide_true, decide_false, Nat.reduceAdd, Nat.reduceLT, Nat.reduceSub, Nat.reduceEqDiff, ne_eq, not_true_eq_false, not_false_eq_true, Option.some.injEq, exists_eq_left, Int.reduceNeg, beq_self_eq_true, Nat.zero_add, Nat.add_zero, realD_int, kvI_keys]) ⟨[], a, b, d, rfl, by rw [List.length_map, List.length_nil]; omega, rfl, fun q hq => getI_key.mpr hq⟩ ?_
  · obtain ⟨ρ', h1, la', a', b', d', h2, _, h3, _⟩ := z
    subst h2
    simp only [List.foldl_nil] at h3
    subst h3
    exact ⟨a', b', d', h1⟩
  · rintro q r ρ ⟨la', a', b', d', rfl, hl, hf, hq⟩
    rw [List.length_cons] at hl
    obtain ⟨b2, d2, e⟩ := e_lp3 k W p w q L la' b' d' hw (hq q (List.mem_cons_self ..)) (by omega)
    refine ⟨_, _, by simp only [e_non, e_bl, e_int, e_str, e_var, e_glob, e_bin, e_neg, e_cmp, e_isN, e_notN, e_chain, e_and_, e_or_, e_not_, e_ite, e_tup, e_lst, e_idx, e_sl, e_rev, e_sset, e_rng, e_call, e_callv, e_blt, e_isi, e_dis, e_dget, z_frz, z_app, z_ext, z_drop, z_set, z_setT, z_par, z_aug, z_put, z_augPut, z_ite, z_ret, z_retN, z_pass, z_brk, z_cont, z_never, z_nil, z_cons, evAnd, evOr, evF, evV, evKV, evI, evC, evP, seqF, setS, varOf, parS, augS, augI, appS, extS, putS, frzL, frzR, bindT, bindL, wipeR, kz, bz, oneI, dBin, dCmp, cLt, cLe, cGt, cGe, cEq_int, cNe_int, dIdx, dBi, bLen, bAbs, bInt, bSum, bMin, bMax, bAny, bAll, bSorted, bList, bTuple, isiD, noneB, fewD, dSl, Option.bind_some, Option.map_some, Option.bind_none, Option.map_none, isKey, keyD, zipD, intsD_map, boolsD_map, boolsD_mapf, intsD_mapf, Option.isSome_some, Nat.reduceLeDiff, Nat.zero_le, List.foldl_nil, List.length_cons, List.length_nil, List.length_map, List.map_cons, List.map_nil, List.cons_append, List.nil_append, List.replicate, List.getElem?_cons_zero, List.getElem?_cons_succ, List.set_cons_zero, List.set_cons_succ, ↓reduceIte, Bool.not_true, Bool.not_false, and_self, and_true, true_and, Bool.false_eq_true, reduceCtorEq, decide_true, decide_false, Nat.reduceAdd, Nat.reduceLT, Nat.reduceSub, Nat.reduceEqDiff, ne_eq, not_true_eq_false, not_false_eq_true, Option.some.injEq, exists_eq_left, Int.reduceNeg, beq_self_eq_true, Nat.zero_add, Nat.add_zero]; rfl, .inl (by simp only [e_non, e_bl, e_int, e_str, e_var, e_glob, e_bin, e_neg, e_cmp, e_isN, e_notN, e_chain, e_and_, e_or_, e_not_, e_ite, e_tup, e_lst, e_idx, e_sl, e_rev, e_sset, e_rng, e_call, e_callv, e_blt, e_isi, e_dis, e_dget, z_frz, z_app, z_ext, z_drop, z_set, z_setT, z_par, z_aug, z_put, z_augPut, z_ite, z_ret, z_retN, z_pass, z_brk, z_cont, z_never, z_nil, z_cons, evAnd, evOr, evF, evV, evKV, evI, evC, evP, seqF, setS, varOf, parS, augS, augI, appS, extS, putS, frzL, frzR, bindT, bindL, wipeR, kz, bz, oneI, dBin, dCmp, cLt, cLe, cGt, cGe, cEq_int, cNe_int, dIdx, dBi, bLen, bAbs, bInt, bSum, bMin, bMax, bAny, bAll, bSorted, bList, bTuple, isiD, noneB, fewD, dSl, Option.bind_some, Option.map_some, Option.bind_none, Option.map_none, isKey, keyD, zipD, intsD_map, boolsD_map, boolsD_mapf, intsD_mapf, Option.isSome_some, Nat.reduceLeDiff, Nat.zero_le, List.foldl_nil, List.length_cons, List.length_nil, List.length_map, List.map_cons, List.map_nil, List.cons_append, List.nil_append, List.replicate, List.getElem?_cons_zero, List.getElem?_cons_succ, List.set_cons_zero, List.set_cons_succ, ↓reduceIte, Bool.not_true, Bool.not_false, and_self, and_true, true_and, Bool.false_eq_true, reduceCtorEq, decide_true, decide_false, Nat.reduceAdd, Nat.reduceLT, Nat.reduceSub, Nat.reduceEqDiff, ne_eq, not_true_eq_false, not_false_eq_true, Option.some.injEq, exists_eq_left, Int.reduceNeg, beq_self_eq_true, Nat.zero_add, Nat.add_zero, e]; rfl), _, _, _, _, rfl, ?_, hf, fun x hx => hq x (List.mem_cons_of_mem _ hx)⟩
    have h2 := addP_len L w q (pl p) la'
    have h3 := pl_len p
    dsimp only
    omega
theorem k__counts : (tabOf tab).lookup ("_counts" : Str) = some t__counts.df := by rfl
theorem e_lp1 (k : Nat) (p : Int) (ws : List Int) (hw : ∀ w ∈ ws, -400000 ≤ w ∧ w ≤ 400000) (hl : ws.length ≤ 8) :
    ∃ a b c d e, evS (glI inf) (C (k + 1)) 100000 (.for_ (.nm 3) (.over (.var 0)) (.cons (.set 4 (.dis .nil)) (.cons lp2 (.cons (.set 2 (.var 4)) .nil)))) [some (false, tpI ws), some (false, .int p), some (false, dct [(0, 1)]), none, none, none, none, none] =
      some (.nx [some (false, tpI ws), some (false, .int p), some (false, dct (countsL ws p)), a, b, c, d, e]) := by
  have z := z_for (gl := glI inf) (c := C (k + 1)) (n := 100000) (ρ := [some (false, tpI ws), some (false, .int p), some (false, dct [(0, 1)]), none, none, none, none, none]) (t := .nm 3) (it := .over (.var 0))
    (b := (.cons (.set 4 (.dis .nil)) (.cons lp2 (.cons (.set 2 (.var 4)) .nil)))) (l := ws) .int
    (fun rest ρ => ∃ L a b c d e, ρ = [some (false, tpI ws), some (false, .int p), some (false, dct L), a, b, c, d, e] ∧ L.length * 3 ^ rest.length ≤ 6561 ∧ rest.foldl (stepL p) L = countsL ws p ∧ ∀ q ∈ rest, -400000 ≤ q ∧ q ≤ 400000)
    (by simp only [e_non, e_bl, e_int, e_str, e_var, e_glob, e_bin, e_neg, e_cmp, e_isN, e_notN, e_chain, e_and_, e_or_, e_not_, e_ite, e_tup, e_lst, e_idx, e_sl, e_rev, e_sset, e_rng, e_call, e_callv, e_blt, e_isi, e_dis, e_dget, z_frz, z_app, z_ext, z_drop, z_set, z_setT, z_par, z_aug, z_put, z_augPut, z_ite, z_ret, z_retN, z_pass, z_brk, z_cont, z_never, z_nil, z_cons, evAnd, evOr, evF, evV, evKV, evI, evC, evP, seqF, setS, varOf, parS, augS, augI, appS, extS, putS, frzL, frzR, bindT, bindL, wipeR, kz, bz, oneI, dBin, dCmp, cLt, cLe, cGt, cGe, cEq_int, cNe_int, dIdx, dBi, bLen, bAbs, bInt, bSum, bMin, bMax, bAny, bAll, bSorted, bList, bTuple, isiD, noneB, fewD, dSl, Option.bind_some, Option.map_some, Option.bind_none, Option.map_none, isKey, keyD, zipD, intsD_map, boolsD_map, boolsD_mapf, intsD_mapf, Option.isSome_some, Nat.reduceLeDiff, Nat.zero_le, List.foldl_nil, List.length_cons, List.length_nil, List.length_map, List.map_cons, List.map_nil, List.cons_append, List.nil_append, List.replicate, List.getElem?_cons_zero, List.getElem?_cons_succ, List.set_cons_zero, List.set_cons_succ, ↓reduceIte, Bool.not_true, Bool.not_false, and_self, and_true, true_and, Bool.false_eq_true, reduceCtorEq, decide_true, decide_false, Nat.reduceAdd, Nat.reduceLT, Nat.reduceSub, Nat.reduceEqDiff, ne_eq, not_true_eq_false, not_false_eq_true, Option.some.injEq, exists_eq_left, Int.reduceNeg, beq_self_eq_true, Nat.zero_add, Nat.add_zero, tpI, beq_iff_eq]) ⟨_, none, none, none, none, none, rfl, ?_, rfl, hw⟩ ?_
  · obtain ⟨ρ', h1, L, a, b, c, d, e, h2, _, h3, _⟩ := z
    subst h2
    simp only [List.foldl_nil] at h3
    subst h3
    exact ⟨a, b, c, d, e, h1⟩
  · have := Nat.pow_le_pow_right (n := 3) (by omega) hl
    simpa using this
  · rintro q r ρ ⟨L, a, b, c, d, e, rfl, hl, hf, hq⟩
    rw [List.length_cons, Nat.pow_succ] at hl
    have hp : 1 ≤ 3 ^ r.length := Nat.one_le_pow _ _ (by omega)
    have hL : L.length * 3 ≤ 6561 := Nat.le_trans (Nat.mul_le_mul (Nat.le_refl _) (by omega)) hl
    obtain ⟨a2, b2, d2, e2⟩ := e_lp2 k (tpI ws) p q L c d e (hq q (List.mem_cons_self ..)) (by omega)
    refine ⟨_, [some (false, tpI ws), some (false, .int p), some (false, dct (stepL p L q)), some (false, .int q), some (false, dct (stepL p L q)), a2, b2, d2], by simp only [e_non, e_bl, e_int, e_str, e_var, e_glob, e_bin, e_neg, e_cmp, e_isN, e_notN, e_chain, e_and_, e_or_, e_not_, e_ite, e_tup, e_lst, e_idx, e_sl, e_rev, e_sset, e_rng, e_call, e_callv, e_blt, e_isi, e_dis, e_dget, z_frz, z_app, z_ext, z_drop, z_set, z_setT, z_par, z_aug, z_put, z_augPut, z_ite, z_ret, z_retN, z_pass, z_brk, z_cont, z_never, z_nil, z_cons, evAnd, evOr, evF, evV, evKV, evI, evC, evP, seqF, setS, varOf, parS, augS, augI, appS, extS, putS, frzL, frzR, bindT, bindL, wipeR, kz, bz, oneI, dBin, dCmp, cLt, cLe, cGt, cGe, cEq_int, cNe_int, dIdx, dBi, bLen, bAbs, bInt, bSum, bMin, bMax, bAny, bAll, bSorted, bList, bTuple, isiD, noneB, fewD, dSl, Option.bind_some, Option.map_some, Option.bind_none, Option.map_none, isKey, keyD, zipD, intsD_map, boolsD_map, boolsD_mapf, intsD_mapf, Option.isSome_some, Nat.reduceLeDiff, Nat.zero_le, List.foldl_nil, List.length_cons, List.length_nil, List.length_map, List.map_cons, List.map_nil, List.cons_append, List.nil_append, List.replicate, List.getElem?_cons_zero, List.getElem?_cons_succ, List.set_cons_zero, List.set_cons_succ, ↓reduceIte, Bool.not_true, Bool.not_false, and_self, and_true, true_and, Bool.false_eq_true, reduceCtorEq, decide_true, decide_false, Nat.reduceAdd, Nat.reduceLT, Nat.reduceSub, Nat.reduceEqDiff, ne_eq, not_true_eq_false, not_false_eq_true, Option.some.injEq, exists_eq_left, Int.reduceNeg, beq_self_eq_true, Nat.zero_add, Nat.add_zero]; rfl, .inl ?_, stepL p L q, _, _, _, _, _, rfl, ?_, hf, fun x hx => hq x (List.mem_cons_of_mem _ hx)⟩
    · rw [show dct [] = .dict [] from rfl] at e2
      simp only [e_non, e_bl, e_int, e_str, e_var, e_glob, e_bin, e_neg, e_cmp, e_isN, e_notN, e_chain, e_and_, e_or_, e_not_, e_ite, e_tup, e_lst, e_idx, e_sl, e_rev, e_sset, e_rng, e_call, e_callv, e_blt, e_isi, e_dis, e_dget, z_frz, z_app, z_ext, z_drop, z_set, z_setT, z_par, z_aug, z_put, z_augPut, z_ite, z_ret, z_retN, z_pass, z_brk, z_cont, z_never, z_nil, z_cons, evAnd, evOr, evF, evV, evKV, evI, evC, evP, seqF, setS, varOf, parS, augS, augI, appS, extS, putS, frzL, frzR, bindT, bindL, wipeR, kz, bz, oneI, dBin, dCmp, cLt, cLe, cGt, cGe, cEq_int, cNe_int, dIdx, dBi, bLen, bAbs, bInt, bSum, bMin, bMax, bAny, bAll, bSorted, bList, bTuple, isiD, noneB, fewD, dSl, Option.bind_some, Option.map_some, Option.bind_none, Option.map_none, isKey, keyD, zipD, intsD_map, boolsD_map, boolsD_mapf, intsD_mapf, Option.isSome_some, Nat.reduceLeDiff, Nat.zero_le, List.foldl_nil, List.length_cons, List.length_nil, List.length_map, List.map_cons, List.map_nil, List.cons_append, List.nil_append, List.replicate, List.getElem?_cons_zero, List.getElem?_cons_succ, List.set_cons_zero, List.set_cons_succ, ↓reduceIte, Bool.not_true, Bool.not_false, and_self, and_true, true_and, Bool.false_eq_true, reduceCtorEq, decide_true, decide_false, Nat.reduceAdd, Nat.reduceLT, Nat.reduceSub, Nat.reduceEqDiff, ne_eq, not_true_eq_false, not_false_eq_true, Option.some.injEq, exists_eq_left, Int.reduceNeg, beq_self_eq_true, Nat.zero_add, Nat.add_zero, e2]
    · have := stepL_len p L q
      calc _ ≤ (3 * L.length) * 3 ^ r.length := Nat.mul_le_mul_right _ this
        _ = L.length * (3 ^ r.length * 3) := by rw [Nat.mul_comm 3, Nat.mul_assoc, Nat.mul_comm 3]
        _ ≤ _ := hl
theorem c__counts (k : Nat) (ws : List Int) (p : Int) (hw : ∀ w ∈ ws, -400000 ≤ w ∧ w ≤ 400000) (hl : ws.length ≤ 8) : C (k + 2) "_counts" [tpI ws, .int p] = some (dct (countsL ws p)) := by
  rw [cS k__counts]
  obtain ⟨a, b, c, d, e, h⟩ := e_lp1 k p ws hw hl
  have hb : t__counts.body = .cons (.set 2 (.dis (.cons (.int 0) (.cons (.int 1) .nil)))) (.cons (.frz [2]) (.cons (.for_ (.nm 3) (.over (.var 0)) (.cons (.set 4 (.dis .nil)) (.cons lp2 (.cons (.set 2 (.var 4)) .nil)))) (.cons (.ret (.var 2)) .nil))) := by rfl
  have e0 : [((PyData.int 0), (PyData.int 1))].foldl (fun acc p => putD acc p.1 p.2) [] = kvI .int [(0, 1)] := by rfl
  simp only [run1, Tx.df, hb]
  simp only [e_non, e_bl, e_int, e_str, e_var, e_glob, e_bin, e_neg, e_cmp, e_isN, e_notN, e_chain, e_and_, e_or_, e_not_, e_ite, e_tup, e_lst, e_idx, e_sl, e_rev, e_sset, e_rng, e_call, e_callv, e_blt, e_isi, e_dis, e_dget, z_frz, z_app, z_ext, z_drop, z_set, z_setT, z_par, z_aug, z_put, z_augPut, z_ite, z_ret, z_retN, z_pass, z_brk, z_cont, z_never, z_nil, z_cons, evAnd, evOr, evF, evV, evKV, evI, evC, evP, seqF, setS, varOf, parS, augS, augI, appS, extS, putS, frzL, frzR, bindT, bindL, wipeR, kz, bz, oneI, dBin, dCmp, cLt, cLe, cGt, cGe, cEq_int, cNe_int, dIdx, dBi, bLen, bAbs, bInt, bSum, bMin, bMax, bAny, bAll, bSorted, bList, bTuple, isiD, noneB, fewD, dSl, Option.bind_some, Option.map_some, Option.bind_none, Option.map_none, isKey, keyD, zipD, intsD_map, boolsD_map, boolsD_mapf, intsD_mapf, Option.isSome_some, Nat.reduceLeDiff, Nat.zero_le, List.foldl_nil, List.length_cons, List.length_nil, List.length_map, List.map_cons, List.map_nil, List.cons_append, List.nil_append, List.replicate, List.getElem?_cons_zero, List.getElem?_cons_succ, List.set_cons_zero, List.set_cons_succ, ↓reduceIte, Bool.not_true, Bool.not_false, and_self, and_true, true_and, Bool.false_eq_true, reduceCtorEq, decide_true, decide_false, Nat.reduceAdd, Nat.reduceLT, Nat.reduceSub, Nat.reduceEqDiff, ne_eq, not_true_eq_false, not_false_eq_true, Option.some.injEq, exists_eq_left, Int.reduceNeg, beq_self_eq_true, Nat.zero_add, Nat.add_zero, t__counts, e0, h]
theorem countsL_len : ∀ (ws : List Int) (p : Int) (L : List (Int × Int)), (ws.foldl (stepL p) L).length ≤ L.length * 3 ^ ws.length
  | [], p, L => by simp
  | w :: ws, p, L => by
    have h1 := countsL_len ws p (stepL p L w)
    have h2 := stepL_len p L w
    rw [List.foldl_cons, List.length_cons, Nat.pow_succ]
    calc _ ≤ (stepL p L w).length * 3 ^ ws.length := h1
      _ ≤ (3 * L.length) * 3 ^ ws.length := Nat.mul_le_mul_right _ h2
      _ = _ := by rw [Nat.mul_comm 3, Nat.mul_assoc, Nat.mul_comm 3]
theorem counts_len {ws : List Int} {p : Int} (h : ws.length ≤ 8) : (countsL ws p).length ≤ 6561 := by
  have h1 := countsL_len ws p [(0, 1)]
  have h2 := Nat.pow_le_pow_right (n := 3) (by omega) h
  simp at h1
  unfold countsL
  omega
structure Wk8 (ws : List Int) : Prop extends Wok ws where
  l8 : ws.length ≤ 8
theorem Wk8.b {ws : List Int} (h : Wk8 ws) : ∀ w ∈ ws, -400000 ≤ w ∧ w ≤ 400000 := fun w hw => by
  have := h.rng w hw
  omega
def wbl (ws : List Int) (p : Int) : List Int := srt (((countsL ws p).map (·.1)).filter fun k => decide (0 < k))
theorem ofp (p : Int) (h : p = 1 ∨ p = 2) : True := trivial
theorem k_weighable : (tabOf tab).lookup ("weighable" : Str) = some t_weighable.df := by rfl
theorem c_weighable (k : Nat) (ws : List Int) (p : Int) (h : Wk8 ws) (hp : p = 1 ∨ p = 2) : C (k + 3) "weighable" [tpI ws, .int p] = some (tpI (wbl ws p)) := by
  rw [cS k_weighable]
  have hl := counts_len (p := p) h.l8
  have cc := c__counts k ws p h.b h.l8
  have hc := e_comp1 (gl := glI inf) (c := C (k + 2)) (ρ := [some (false, tpI ws), some (false, .int p), none]) (elt := .var 2) (cond := .cmp .gt (.var 2) (.int 0)) (tg := .nm 2) (it := .over (.call "_counts" (.cons (.var 0) (.cons (.var 1) .nil)))) (own := [("one", 2)]) (b := false) (l := (countsL ws p).map (·.1)) .int .int (fun k => decide (0 < k))
    (by simp only [e_non, e_bl, e_int, e_str, e_var, e_glob, e_bin, e_neg, e_cmp, e_isN, e_notN, e_chain, e_and_, e_or_, e_not_, e_ite, e_tup, e_lst, e_idx, e_sl, e_rev, e_sset, e_rng, e_call, e_callv, e_blt, e_isi, e_dis, e_dget, z_frz, z_app, z_ext, z_drop, z_set, z_setT, z_par, z_aug, z_put, z_augPut, z_ite, z_ret, z_retN, z_pass, z_brk, z_cont, z_never, z_nil, z_cons, evAnd, evOr, evF, evV, evKV, evI, evC, evP, seqF, setS, varOf, parS, augS, augI, appS, extS, putS, frzL, frzR, bindT, bindL, wipeR, kz, bz, oneI, dBin, dCmp, cLt, cLe, cGt, cGe, cEq_int, cNe_int, dIdx, dBi, bLen, bAbs, bInt, bSum, bMin, bMax, bAny, bAll, bSorted, bList, bTuple, isiD, noneB, fewD, dSl, Option.bind_some, Option.map_some, Option.bind_none, Option.map_none, isKey, keyD, zipD, intsD_map, boolsD_map, boolsD_mapf, intsD_mapf, Option.isSome_some, Nat.reduceLeDiff, Nat.zero_le, List.foldl_nil, List.length_cons, List.length_nil, List.length_map, List.map_cons, List.map_nil, List.cons_append, List.nil_append, List.replicate, List.getElem?_cons_zero, List.getElem?_cons_succ, List.set_cons_zero, List.set_cons_succ, ↓reduceIte, Bool.not_true, Bool.not_false, and_self, and_true, true_and, Bool.false_eq_true, reduceCtorEq, decide_true, decide_false, Nat.reduceAdd, Nat.reduceLT, Nat.reduceSub, Nat.reduceEqDiff, ne_eq, not_true_eq_false, not_false_eq_true, Option.some.injEq, exists_eq_left, Int.reduceNeg, beq_self_eq_true, Nat.zero_add, Nat.add_zero, cc, realD_int, kvI_keys]) (by rw [List.length_map]; omega) (fun x hx => ⟨[some (false, tpI ws), some (false, .int p), some (false, .int x)], by simp only [e_non, e_bl, e_int, e_str, e_var, e_glob, e_bin, e_neg, e_cmp, e_isN, e_notN, e_chain, e_and_, e_or_, e_not_, e_ite, e_tup, e_lst, e_idx, e_sl, e_rev, e_sset, e_rng, e_call, e_callv, e_blt, e_isi, e_dis, e_dget, z_frz, z_app, z_ext, z_drop, z_set, z_setT, z_par, z_aug, z_put, z_augPut, z_ite, z_ret, z_retN, z_pass, z_brk, z_cont, z_never, z_nil, z_cons, evAnd, evOr, evF, evV, evKV, evI, evC, evP, seqF, setS, varOf, parS, augS, augI, appS, extS, putS, frzL, frzR, bindT, bindL, wipeR, kz, bz, oneI, dBin, dCmp, cLt, cLe, cGt, cGe, cEq_int, cNe_int, dIdx, dBi, bLen, bAbs, bInt, bSum, bMin, bMax, bAny, bAll, bSorted, bList, bTuple, isiD, noneB, fewD, dSl, Option.bind_some, Option.map_some, Option.bind_none, Option.map_none, isKey, keyD, zipD, intsD_map, boolsD_map, boolsD_mapf, intsD_mapf, Option.isSome_some, Nat.reduceLeDiff, Nat.zero_le, List.foldl_nil, List.length_cons, List.length_nil, List.length_map, List.map_cons, List.map_nil, List.cons_append, List.nil_append, List.replicate, List.getElem?_cons_zero, List.getElem?_cons_succ, List.set_cons_zero, List.set_cons_succ, ↓reduceIte, Bool.not_true, Bool.not_false, and_self, and_true, true_and, Bool.false_eq_true, reduceCtorEq, decide_true, decide_false, Nat.reduceAdd, Nat.reduceLT, Nat.reduceSub, Nat.reduceEqDiff, ne_eq, not_true_eq_false, not_false_eq_true, Option.some.injEq, exists_eq_left, Int.reduceNeg, beq_self_eq_true, Nat.zero_add, Nat.add_zero], by simp only [e_non, e_bl, e_int, e_str, e_var, e_glob, e_bin, e_neg, e_cmp, e_isN, e_notN, e_chain, e_and_, e_or_, e_not_, e_ite, e_tup, e_lst, e_idx, e_sl, e_rev, e_sset, e_rng, e_call, e_callv, e_blt, e_isi, e_dis, e_dget, z_frz, z_app, z_ext, z_drop, z_set, z_setT, z_par, z_aug, z_put, z_augPut, z_ite, z_ret, z_retN, z_pass, z_brk, z_cont, z_never, z_nil, z_cons, evAnd, evOr, evF, evV, evKV, evI, evC, evP, seqF, setS, varOf, parS, augS, augI, appS, extS, putS, frzL, frzR, bindT, bindL, wipeR, kz, bz, oneI, dBin, dCmp, cLt, cLe, cGt, cGe, cEq_int, cNe_int, dIdx, dBi, bLen, bAbs, bInt, bSum, bMin, bMax, bAny, bAll, bSorted, bList, bTuple, isiD, noneB, fewD, dSl, Option.bind_some, Option.map_some, Option.bind_none, Option.map_none, isKey, keyD, zipD, intsD_map, boolsD_map, boolsD_mapf, intsD_mapf, Option.isSome_some, Nat.reduceLeDiff, Nat.zero_le, List.foldl_nil, List.length_cons, List.length_nil, List.length_map, List.map_cons, List.map_nil, List.cons_append, List.nil_append, List.replicate, List.getElem?_cons_zero, List.getElem?_cons_succ, List.set_cons_zero, List.set_cons_succ, ↓reduceIte, Bool.not_true, Bool.not_false, and_self, and_true, true_and, Bool.false_eq_true, reduceCtorEq, decide_true, decide_false, Nat.reduceAdd, Nat.reduceLT, Nat.reduceSub, Nat.reduceEqDiff, ne_eq, not_true_eq_false, not_false_eq_true, Option.some.injEq, exists_eq_left, Int.reduceNeg, beq_self_eq_true, Nat.zero_add, Nat.add_zero], by simp only [e_non, e_bl, e_int, e_str, e_var, e_glob, e_bin, e_neg, e_cmp, e_isN, e_notN, e_chain, e_and_, e_or_, e_not_, e_ite, e_tup, e_lst, e_idx, e_sl, e_rev, e_sset, e_rng, e_call, e_callv, e_blt, e_isi, e_dis, e_dget, z_frz, z_app, z_ext, z_drop, z_set, z_setT, z_par, z_aug, z_put, z_augPut, z_ite, z_ret, z_retN, z_pass, z_brk, z_cont, z_never, z_nil, z_cons, evAnd, evOr, evF, evV, evKV, evI, evC, evP, seqF, setS, varOf, parS, augS, augI, appS, extS, putS, frzL, frzR, bindT, bindL, wipeR, kz, bz, oneI, dBin, dCmp, cLt, cLe, cGt, cGe, cEq_int, cNe_int, dIdx, dBi, bLen, bAbs, bInt, bSum, bMin, bMax, bAny, bAll, bSorted, bList, bTuple, isiD, noneB, fewD, dSl, Option.bind_some, Option.map_some, Option.bind_none, Option.map_none, isKey, keyD, zipD, intsD_map, boolsD_map, boolsD_mapf, intsD_mapf, Option.isSome_some, Nat.reduceLeDiff, Nat.zero_le, List.foldl_nil, List.length_cons, List.length_nil, List.length_map, List.map_cons, List.map_nil, List.cons_append, List.nil_append, List.replicate, List.getElem?_cons_zero, List.getElem?_cons_succ, List.set_cons_zero, List.set_cons_succ, ↓reduceIte, Bool.not_true, Bool.not_false, and_self, and_true, true_and, Bool.false_eq_true, reduceCtorEq, decide_true, decide_false, Nat.reduceAdd, Nat.reduceLT, Nat.reduceSub, Nat.reduceEqDiff, ne_eq, not_true_eq_false, not_false_eq_true, Option.some.injEq, exists_eq_left, Int.reduceNeg, beq_self_eq_true, Nat.zero_add, Nat.add_zero]⟩)
  have hs := sortB_int (((countsL ws p).map (·.1)).filter fun k => decide (0 < k)) (Nat.le_trans (List.length_filter_le _ _) (by rw [List.length_map]; omega))
  have c1 := c__check_weights k ws h.toWok
  have c2 := c__check_pans k p hp
  simp only [run1, t_weighable, Tx.df, b_weighable, e_non, e_bl, e_int, e_str, e_var, e_glob, e_bin, e_neg, e_cmp, e_isN, e_notN, e_chain, e_and_, e_or_, e_not_, e_ite, e_tup, e_lst, e_idx, e_sl, e_rev, e_sset, e_rng, e_call, e_callv, e_blt, e_isi, e_dis, e_dget, z_frz, z_app, z_ext, z_drop, z_set, z_setT, z_par, z_aug, z_put, z_augPut, z_ite, z_ret, z_retN, z_pass, z_brk, z_cont, z_never, z_nil, z_cons, evAnd, evOr, evF, evV, evKV, evI, evC, evP, seqF, setS, varOf, parS, augS, augI, appS, extS, putS, frzL, frzR, bindT, bindL, wipeR, kz, bz, oneI, dBin, dCmp, cLt, cLe, cGt, cGe, cEq_int, cNe_int, dIdx, dBi, bLen, bAbs, bInt, bSum, bMin, bMax, bAny, bAll, bSorted, bList, bTuple, isiD, noneB, fewD, dSl, Option.bind_some, Option.map_some, Option.bind_none, Option.map_none, isKey, keyD, zipD, intsD_map, boolsD_map, boolsD_mapf, intsD_mapf, Option.isSome_some, Nat.reduceLeDiff, Nat.zero_le, List.foldl_nil, List.length_cons, List.length_nil, List.length_map, List.map_cons, List.map_nil, List.cons_append, List.nil_append, List.replicate, List.getElem?_cons_zero, List.getElem?_cons_succ, List.set_cons_zero, List.set_cons_succ, ↓reduceIte, Bool.not_true, Bool.not_false, and_self, and_true, true_and, Bool.false_eq_true, reduceCtorEq, decide_true, decide_false, Nat.reduceAdd, Nat.reduceLT, Nat.reduceSub, Nat.reduceEqDiff, ne_eq, not_true_eq_false, not_false_eq_true, Option.some.injEq, exists_eq_left, Int.reduceNeg, beq_self_eq_true, Nat.zero_add, Nat.add_zero, c1, c2, hc, hs, sortD_int]
  rfl
theorem k_ways_to : (tabOf tab).lookup ("ways_to" : Str) = some t_ways_to.df := by rfl
theorem c_ways_to (k : Nat) (ws : List Int) (p a : Int) (h : Wk8 ws) (hp : p = 1 ∨ p = 2) (h1 : 1 ≤ a) (h2 : a ≤ 100000) : C (k + 3) "ways_to" [tpI ws, .int p, .int a] = some (.int ((getI (countsL ws p) a).getD 0)) := by
  rw [cS k_ways_to]
  have cc := c__counts k ws p h.b h.l8
  have c1 := c__check_weights k ws h.toWok
  have c2 := c__check_pans k p hp
  have c3 := c__check_amount k a h1 h2
  have e1 : (lookD (kvI .int (countsL ws p)) (.int a)).getD (.int 0) = .int ((getI (countsL ws p) a).getD 0) := by
    rw [lookD_int]; cases getI (countsL ws p) a <;> rfl
  simp only [run1, t_ways_to, Tx.df, b_ways_to, e_non, e_bl, e_int, e_str, e_var, e_glob, e_bin, e_neg, e_cmp, e_isN, e_notN, e_chain, e_and_, e_or_, e_not_, e_ite, e_tup, e_lst, e_idx, e_sl, e_rev, e_sset, e_rng, e_call, e_callv, e_blt, e_isi, e_dis, e_dget, z_frz, z_app, z_ext, z_drop, z_set, z_setT, z_par, z_aug, z_put, z_augPut, z_ite, z_ret, z_retN, z_pass, z_brk, z_cont, z_never, z_nil, z_cons, evAnd, evOr, evF, evV, evKV, evI, evC, evP, seqF, setS, varOf, parS, augS, augI, appS, extS, putS, frzL, frzR, bindT, bindL, wipeR, kz, bz, oneI, dBin, dCmp, cLt, cLe, cGt, cGe, cEq_int, cNe_int, dIdx, dBi, bLen, bAbs, bInt, bSum, bMin, bMax, bAny, bAll, bSorted, bList, bTuple, isiD, noneB, fewD, dSl, Option.bind_some, Option.map_some, Option.bind_none, Option.map_none, isKey, keyD, zipD, intsD_map, boolsD_map, boolsD_mapf, intsD_mapf, Option.isSome_some, Nat.reduceLeDiff, Nat.zero_le, List.foldl_nil, List.length_cons, List.length_nil, List.length_map, List.map_cons, List.map_nil, List.cons_append, List.nil_append, List.replicate, List.getElem?_cons_zero, List.getElem?_cons_succ, List.set_cons_zero, List.set_cons_succ, ↓reduceIte, Bool.not_true, Bool.not_false, and_self, and_true, true_and, Bool.false_eq_true, reduceCtorEq, decide_true, decide_false, Nat.reduceAdd, Nat.reduceLT, Nat.reduceSub, Nat.reduceEqDiff, ne_eq, not_true_eq_false, not_false_eq_true, Option.some.injEq, exists_eq_left, Int.reduceNeg, beq_self_eq_true, Nat.zero_add, Nat.add_zero, c1, c2, c3, cc, realD_int, e1]
/-! _gap -/
theorem k__gap : (tabOf tab).lookup ("_gap" : Str) = some t__gap.df := by rfl
theorem loop_gap (k : Nat) (A B : Option (Bool × PyData)) (L : List (Int × Int)) : ∀ (n : Nat) (a : Int) (m : Nat), (∀ i : Nat, i < n → (getI L (a + i)).isSome = true) → getI L (a + n) = none → n < m →
    loopF (fun ρ => bz (ev (glI inf) (C k) (.cmp .isin (.var 3) (.var 2)) ρ)) (evS (glI inf) (C k) 100000 (.cons (.aug 3 .add (.int 1)) .nil)) m [A, B, some (false, dct L), some (false, .int a)] = some (.nx [A, B, some (false, dct L), some (false, .int (a + n))])
  | 0, a, m, h, h0, hm => by
    cases m with
    | zero => omega
    | succ m =>
      have e : lookD (kvI .int L) (.int a) = none := by rw [lookD_int]; simpa using h0
      rw [loopF]
      simp only [e_non, e_bl, e_int, e_str, e_var, e_glob, e_bin, e_neg, e_cmp, e_isN, e_notN, e_chain, e_and_, e_or_, e_not_, e_ite, e_tup, e_lst, e_idx, e_sl, e_rev, e_sset, e_rng, e_call, e_callv, e_blt, e_isi, e_dis, e_dget, z_frz, z_app, z_ext, z_drop, z_set, z_setT, z_par, z_aug, z_put, z_augPut, z_ite, z_ret, z_retN, z_pass, z_brk, z_cont, z_never, z_nil, z_cons, evAnd, evOr, evF, evV, evKV, evI, evC, evP, seqF, setS, varOf, parS, augS, augI, appS, extS, putS, frzL, frzR, bindT, bindL, wipeR, kz, bz, oneI, dBin, dCmp, cLt, cLe, cGt, cGe, cEq_int, cNe_int, dIdx, dBi, bLen, bAbs, bInt, bSum, bMin, bMax, bAny, bAll, bSorted, bList, bTuple, isiD, noneB, fewD, dSl, Option.bind_some, Option.map_some, Option.bind_none, Option.map_none, isKey, keyD, zipD, intsD_map, boolsD_map, boolsD_mapf, intsD_mapf, Option.isSome_some, Nat.reduceLeDiff, Nat.zero_le, List.foldl_nil, List.length_cons, List.length_nil, List.length_map, List.map_cons, List.map_nil, List.cons_append, List.nil_append, List.replicate, List.getElem?_cons_zero, List.getElem?_cons_succ, List.set_cons_zero, List.set_cons_succ, ↓reduceIte, Bool.not_true, Bool.not_false, and_self, and_true, true_and, Bool.false_eq_true, reduceCtorEq, decide_true, decide_false, Nat.reduceAdd, Nat.reduceLT, Nat.reduceSub, Nat.reduceEqDiff, ne_eq, not_true_eq_false, not_false_eq_true, Option.some.injEq, exists_eq_left, Int.reduceNeg, beq_self_eq_true, Nat.zero_add, Nat.add_zero, cIn, realD_int, e, Option.isSome_none]
      simp
  | n + 1, a, m, h, h0, hm => by
    cases m with
    | zero => omega
    | succ m =>
      have h1 := h 0 (by omega)
      obtain ⟨v, hv⟩ := Option.isSome_iff_exists.mp h1
      have e : lookD (kvI .int L) (.int a) = some (.int v) := by rw [lookD_int]; simp at hv; rw [hv]; rfl
      have ih := loop_gap k A B L n (a + 1) m (fun i hi => by have := h (i + 1) (by omega); rwa [show a + ((i + 1 : Nat) : Int) = a + 1 + i by omega] at this) (by rwa [show a + 1 + (n : Int) = a + ((n + 1 : Nat) : Int) by omega]) (by omega)
      rw [loopF]
      simp only [e_non, e_bl, e_int, e_str, e_var, e_glob, e_bin, e_neg, e_cmp, e_isN, e_notN, e_chain, e_and_, e_or_, e_not_, e_ite, e_tup, e_lst, e_idx, e_sl, e_rev, e_sset, e_rng, e_call, e_callv, e_blt, e_isi, e_dis, e_dget, z_frz, z_app, z_ext, z_drop, z_set, z_setT, z_par, z_aug, z_put, z_augPut, z_ite, z_ret, z_retN, z_pass, z_brk, z_cont, z_never, z_nil, z_cons, evAnd, evOr, evF, evV, evKV, evI, evC, evP, seqF, setS, varOf, parS, augS, augI, appS, extS, putS, frzL, frzR, bindT, bindL, wipeR, kz, bz, oneI, dBin, dCmp, cLt, cLe, cGt, cGe, cEq_int, cNe_int, dIdx, dBi, bLen, bAbs, bInt, bSum, bMin, bMax, bAny, bAll, bSorted, bList, bTuple, isiD, noneB, fewD, dSl, Option.bind_some, Option.map_some, Option.bind_none, Option.map_none, isKey, keyD, zipD, intsD_map, boolsD_map, boolsD_mapf, intsD_mapf, Option.isSome_some, Nat.reduceLeDiff, Nat.zero_le, List.foldl_nil, List.length_cons, List.length_nil, List.length_map, List.map_cons, List.map_nil, List.cons_append, List.nil_append, List.replicate, List.getElem?_cons_zero, List.getElem?_cons_succ, List.set_cons_zero, List.set_cons_succ, ↓reduceIte, Bool.not_true, Bool.not_false, and_self, and_true, true_and, Bool.false_eq_true, reduceCtorEq, decide_true, decide_false, Nat.reduceAdd, Nat.reduceLT, Nat.reduceSub, Nat.reduceEqDiff, ne_eq, not_true_eq_false, not_false_eq_true, Option.some.injEq, exists_eq_left, Int.reduceNeg, beq_self_eq_true, Nat.zero_add, Nat.add_zero, cIn, realD_int, e] at ih ⊢
      rw [ih]
      rw [show a + 1 + (n : Int) = a + ((n + 1 : Nat) : Int) by omega]
theorem c__gap (k : Nat) (ws : List Int) (p : Int) (n : Nat) (hw : ∀ w ∈ ws, -400000 ≤ w ∧ w ≤ 400000) (hl : ws.length ≤ 8) (h : ∀ i : Nat, i < n → (getI (countsL ws p) (1 + i)).isSome = true) (h0 : getI (countsL ws p) (1 + n) = none) (hn : n < 100000) :
    C (k + 3) "_gap" [tpI ws, .int p] = some (.int (1 + n)) := by
  rw [cS k__gap]
  have cc := c__counts k ws p hw hl
  have lg := loop_gap (k + 2) (some (false, tpI ws)) (some (false, .int p)) (countsL ws p) n 1 100000 h h0 hn
  have e : evS (glI inf) (C (k + 2)) 100000 (.while_ (.cmp .isin (.var 3) (.var 2)) (.cons (.aug 3 .add (.int 1)) .nil)) [some (false, tpI ws), some (false, .int p), some (false, dct (countsL ws p)), some (false, .int 1)] = some (.nx [some (false, tpI ws), some (false, .int p), some (false, dct (countsL ws p)), some (false, .int (1 + n))]) := by
    rw [evS]; exact lg
  simp only [run1, t__gap, Tx.df, b__gap, e_non, e_bl, e_int, e_str, e_var, e_glob, e_bin, e_neg, e_cmp, e_isN, e_notN, e_chain, e_and_, e_or_, e_not_, e_ite, e_tup, e_lst, e_idx, e_sl, e_rev, e_sset, e_rng, e_call, e_callv, e_blt, e_isi, e_dis, e_dget, z_frz, z_app, z_ext, z_drop, z_set, z_setT, z_par, z_aug, z_put, z_augPut, z_ite, z_ret, z_retN, z_pass, z_brk, z_cont, z_never, z_nil, z_cons, evAnd, evOr, evF, evV, evKV, evI, evC, evP, seqF, setS, varOf, parS, augS, augI, appS, extS, putS, frzL, frzR, bindT, bindL, wipeR, kz, bz, oneI, dBin, dCmp, cLt, cLe, cGt, cGe, cEq_int, cNe_int, dIdx, dBi, bLen, bAbs, bInt, bSum, bMin, bMax, bAny, bAll, bSorted, bList, bTuple, isiD, noneB, fewD, dSl, Option.bind_some, Option.map_some, Option.bind_none, Option.map_none, isKey, keyD, zipD, intsD_map, boolsD_map, boolsD_mapf, intsD_mapf, Option.isSome_some, Nat.reduceLeDiff, Nat.zero_le, List.foldl_nil, List.length_cons, List.length_nil, List.length_map, List.map_cons, List.map_nil, List.cons_append, List.nil_append, List.replicate, List.getElem?_cons_zero, List.getElem?_cons_succ, List.set_cons_zero, List.set_cons_succ, ↓reduceIte, Bool.not_true, Bool.not_false, and_self, and_true, true_and, Bool.false_eq_true, reduceCtorEq, decide_true, decide_false, Nat.reduceAdd, Nat.reduceLT, Nat.reduceSub, Nat.reduceEqDiff, ne_eq, not_true_eq_false, not_false_eq_true, Option.some.injEq, exists_eq_left, Int.reduceNeg, beq_self_eq_true, Nat.zero_add, Nat.add_zero, cc, e]
theorem k_gap : (tabOf tab).lookup ("gap" : Str) = some t_gap.df := by rfl
theorem c_gap (k : Nat) (ws : List Int) (p : Int) (n : Nat) (hw : Wk8 ws) (hp : p = 1 ∨ p = 2) (h : ∀ i : Nat, i < n → (getI (countsL ws p) (1 + i)).isSome = true) (h0 : getI (countsL ws p) (1 + n) = none) (hn : n < 100000) :
    C (k + 4) "gap" [tpI ws, .int p] = some (.int (1 + n)) := by
  rw [cS k_gap]
  have c1 := c__check_weights (k + 1) ws hw.toWok
  have c2 := c__check_pans (k + 1) p hp
  have c3 := c__gap k ws p n hw.b hw.l8 h h0 hn
  simp only [run1, t_gap, Tx.df, b_gap, e_non, e_bl, e_int, e_str, e_var, e_glob, e_bin, e_neg, e_cmp, e_isN, e_notN, e_chain, e_and_, e_or_, e_not_, e_ite, e_tup, e_lst, e_idx, e_sl, e_rev, e_sset, e_rng, e_call, e_callv, e_blt, e_isi, e_dis, e_dget, z_frz, z_app, z_ext, z_drop, z_set, z_setT, z_par, z_aug, z_put, z_augPut, z_ite, z_ret, z_retN, z_pass, z_brk, z_cont, z_never, z_nil, z_cons, evAnd, evOr, evF, evV, evKV, evI, evC, evP, seqF, setS, varOf, parS, augS, augI, appS, extS, putS, frzL, frzR, bindT, bindL, wipeR, kz, bz, oneI, dBin, dCmp, cLt, cLe, cGt, cGe, cEq_int, cNe_int, dIdx, dBi, bLen, bAbs, bInt, bSum, bMin, bMax, bAny, bAll, bSorted, bList, bTuple, isiD, noneB, fewD, dSl, Option.bind_some, Option.map_some, Option.bind_none, Option.map_none, isKey, keyD, zipD, intsD_map, boolsD_map, boolsD_mapf, intsD_mapf, Option.isSome_some, Nat.reduceLeDiff, Nat.zero_le, List.foldl_nil, List.length_cons, List.length_nil, List.length_map, List.map_cons, List.map_nil, List.cons_append, List.nil_append, List.replicate, List.getElem?_cons_zero, List.getElem?_cons_succ, List.set_cons_zero, List.set_cons_succ, ↓reduceIte, Bool.not_true, Bool.not_false, and_self, and_true, true_and, Bool.false_eq_true, reduceCtorEq, decide_true, decide_false, Nat.reduceAdd, Nat.reduceLT, Nat.reduceSub, Nat.reduceEqDiff, ne_eq, not_true_eq_false, not_false_eq_true, Option.some.injEq, exists_eq_left, Int.reduceNeg, beq_self_eq_true, Nat.zero_add, Nat.add_zero, c1, c2, c3]
theorem k_is_enough : (tabOf tab).lookup ("is_enough" : Str) = some t_is_enough.df := by rfl
theorem c_is_enough (k : Nat) (ws : List Int) (p m : Int) (n : Nat) (hw : Wk8 ws) (hp : p = 1 ∨ p = 2) (h1 : 1 ≤ m) (h2 : m ≤ 1000) (h : ∀ i : Nat, i < n → (getI (countsL ws p) (1 + i)).isSome = true) (h0 : getI (countsL ws p) (1 + n) = none) (hn : n < 100000) :
    C (k + 4) "is_enough" [tpI ws, .int p, .int m] = some (.bool (decide (m < 1 + n))) := by
  rw [cS k_is_enough]
  have c1 := c__check_weights (k + 1) ws hw.toWok
  have c2 := c__check_pans (k + 1) p hp
  have c3 := c__gap k ws p n hw.b hw.l8 h h0 hn
  have c4 := c__check_most (k + 1) m h1 h2
  simp only [run1, t_is_enough, Tx.df, b_is_enough, e_non, e_bl, e_int, e_str, e_var, e_glob, e_bin, e_neg, e_cmp, e_isN, e_notN, e_chain, e_and_, e_or_, e_not_, e_ite, e_tup, e_lst, e_idx, e_sl, e_rev, e_sset, e_rng, e_call, e_callv, e_blt, e_isi, e_dis, e_dget, z_frz, z_app, z_ext, z_drop, z_set, z_setT, z_par, z_aug, z_put, z_augPut, z_ite, z_ret, z_retN, z_pass, z_brk, z_cont, z_never, z_nil, z_cons, evAnd, evOr, evF, evV, evKV, evI, evC, evP, seqF, setS, varOf, parS, augS, augI, appS, extS, putS, frzL, frzR, bindT, bindL, wipeR, kz, bz, oneI, dBin, dCmp, cLt, cLe, cGt, cGe, cEq_int, cNe_int, dIdx, dBi, bLen, bAbs, bInt, bSum, bMin, bMax, bAny, bAll, bSorted, bList, bTuple, isiD, noneB, fewD, dSl, Option.bind_some, Option.map_some, Option.bind_none, Option.map_none, isKey, keyD, zipD, intsD_map, boolsD_map, boolsD_mapf, intsD_mapf, Option.isSome_some, Nat.reduceLeDiff, Nat.zero_le, List.foldl_nil, List.length_cons, List.length_nil, List.length_map, List.map_cons, List.map_nil, List.cons_append, List.nil_append, List.replicate, List.getElem?_cons_zero, List.getElem?_cons_succ, List.set_cons_zero, List.set_cons_succ, ↓reduceIte, Bool.not_true, Bool.not_false, and_self, and_true, true_and, Bool.false_eq_true, reduceCtorEq, decide_true, decide_false, Nat.reduceAdd, Nat.reduceLT, Nat.reduceSub, Nat.reduceEqDiff, ne_eq, not_true_eq_false, not_false_eq_true, Option.some.injEq, exists_eq_left, Int.reduceNeg, beq_self_eq_true, Nat.zero_add, Nat.add_zero, c1, c2, c3, c4]
end Bw.K3

namespace Bw.K3
open PySem
/-! how many ways -/
def fv (L : List (Int × Int)) (x : Int) : Int := (getI L x).getD 0
def cnt : List Int → Int → Int → Int
  | [], _, x => if x = 0 then 1 else 0
  | w :: ws, p, x => if p = 1 then cnt ws p x + cnt ws p (x - w) else cnt ws p (x + w) + cnt ws p x + cnt ws p (x - w)
theorem cnt_nn : ∀ (ws : List Int) (p x : Int), 0 ≤ cnt ws p x
  | [], p, x => by unfold cnt; split <;> omega
  | w :: ws, p, x => by
    unfold cnt
    have h1 := cnt_nn ws p x
    have h2 := cnt_nn ws p (x - w)
    have h3 := cnt_nn ws p (x + w)
    split <;> omega
theorem cnt_snoc (w : Int) : ∀ (ws : List Int) (p x : Int), cnt (ws ++ [w]) p x = if p = 1 then cnt ws p x + cnt ws p (x - w) else cnt ws p (x + w) + cnt ws p x + cnt ws p (x - w)
  | [], p, x => by simp only [List.nil_append, cnt]
  | v :: ws, p, x => by
    have h1 := cnt_snoc w ws p x
    have h2 := cnt_snoc w ws p (x - v)
    have h3 := cnt_snoc w ws p (x + v)
    simp only [List.cons_append, cnt]
    by_cases hp : p = 1
    · simp only [hp, if_true] at h1 h2 h3 ⊢
      rw [h1, h2, show x - w - v = x - v - w by omega]
      omega
    · simp only [hp, if_false] at h1 h2 h3 ⊢
      rw [h1, h2, h3, show x - w - v = x - v - w by omega, show x + w - v = x - v + w by omega, show x + w + v = x + v + w by omega, show x - w + v = x + v - w by omega]
      omega
/-- what holds of such a dict -/
structure Good (L : List (Int × Int)) (f : Int → Int) : Prop where
  nd : (L.map (·.1)).Nodup
  eq : ∀ x, getI L x = if f x = 0 then none else some (f x)
  nn : ∀ x, 0 ≤ f x
theorem Good.fv {L : List (Int × Int)} {f : Int → Int} (g : Good L f) (x : Int) : fv L x = f x := by
  unfold Bw.K3.fv
  rw [g.eq]
  split
  · rename_i h; rw [h]; rfl
  · rfl
theorem Good.key {L : List (Int × Int)} {f : Int → Int} (g : Good L f) (x : Int) : x ∈ L.map (·.1) ↔ 0 < f x := by
  rw [← getI_key, g.eq]
  have := g.nn x
  split
  · rename_i h; simp [h]
  · simp; omega
theorem add_good {L la : List (Int × Int)} {g f : Int → Int} (h : Good la g) (w o q : Int) (hp : 0 < Bw.K3.fv L o) : Good (addP L w o la q) (fun x => g x + if x = o + q * w then Bw.K3.fv L o else 0) where
  nd := by unfold addP; exact putI_nodup h.nd
  nn := fun x => by
    have := h.nn x
    split <;> omega
  eq := fun x => by
    unfold addP
    rw [getI_put]
    by_cases hx : x = o + q * w
    · have h1 := h.fv (o + q * w)
      have h2 := h.nn (o + q * w)
      unfold Bw.K3.fv at h1 hp
      rw [if_pos hx, hx, h1]
      rw [if_pos rfl, if_neg (by unfold Bw.K3.fv; omega)]
      rfl
    · rw [if_neg hx, h.eq]
      rw [if_neg hx, Int.add_zero]
/-- what one key adds -/
def one (p w o v x : Int) : Int := if p = 1 then (if x = o then v else 0) + (if x = o + w then v else 0) else (if x = o - w then v else 0) + (if x = o then v else 0) + (if x = o + w then v else 0)
theorem inner_good {L la : List (Int × Int)} {g : Int → Int} (h : Good la g) (p w o : Int) (hp : 0 < Bw.K3.fv L o) : Good ((pl p).foldl (addP L w o) la) (fun x => g x + one p w o (Bw.K3.fv L o) x) := by
  unfold pl one
  split
  · rename_i h1
    have a := add_good (f := g) h w o 0 hp
    have b := add_good (f := g) a w o 1 hp
    simp only [List.foldl_cons, List.foldl_nil]
    refine ⟨b.nd, fun x => ?_, fun x => ?_⟩
    · rw [b.eq]; simp only [Int.zero_mul, Int.add_zero, Int.one_mul, Int.add_assoc]
    · have := b.nn x; simp only [Int.zero_mul, Int.add_zero, Int.one_mul] at this; omega
  · have a := add_good (f := g) h w o (-1) hp
    have b := add_good (f := g) a w o 0 hp
    have c := add_good (f := g) b w o 1 hp
    simp only [List.foldl_cons, List.foldl_nil]
    have e : ∀ x : Int, (x = o + -1 * w) = (x = o - w) := fun x => by
      apply propext
      constructor <;> intro h <;> omega
    refine ⟨c.nd, fun x => ?_, fun x => ?_⟩
    · rw [c.eq]; simp only [Int.zero_mul, Int.add_zero, Int.one_mul, Int.add_assoc, e]
    · have := c.nn x; simp only [Int.zero_mul, Int.add_zero, Int.one_mul, e] at this; omega
def sumF (F : Int → Int) : List Int → Int
  | [] => 0
  | o :: os => F o + sumF F os
theorem outer_good {L : List (Int × Int)} (p w : Int) : ∀ (os : List Int) {la : List (Int × Int)} {g : Int → Int}, Good la g → (∀ o ∈ os, 0 < Bw.K3.fv L o) →
    Good (os.foldl (fun la o => (pl p).foldl (addP L w o) la) la) (fun x => g x + sumF (fun o => one p w o (Bw.K3.fv L o) x) os)
  | [], la, g, h, _ => by
    simp only [List.foldl_nil, sumF, Int.add_zero]
    exact h
  | o :: os, la, g, h, hp => by
    have a := inner_good h p w o (hp o (List.mem_cons_self ..))
    have b := outer_good p w os a fun z hz => hp z (List.mem_cons_of_mem _ hz)
    simp only [List.foldl_cons, sumF]
    refine ⟨b.nd, fun x => ?_, fun x => ?_⟩
    · rw [b.eq]; simp only [Int.add_assoc]
    · have := b.nn x; simp only [Int.add_assoc] at this; exact this
theorem sum_if {f : Int → Int} (y : Int) : ∀ (os : List Int), os.Nodup → sumF (fun o => if y = o then f o else 0) os = if y ∈ os then f y else 0
  | [], _ => by simp [sumF]
  | o :: os, h => by
    obtain ⟨h1, h2⟩ := List.nodup_cons.mp h
    rw [sumF, sum_if y os h2]
    by_cases e : y = o
    · subst e; simp [h1]
    · simp [e]
theorem sum_add (F F' : Int → Int) : ∀ os : List Int, sumF (fun o => F o + F' o) os = sumF F os + sumF F' os
  | [] => rfl
  | o :: os => by simp only [sumF, sum_add F F' os]; omega
theorem sum_congr {F F' : Int → Int} (h : ∀ o, F o = F' o) (os : List Int) : sumF F os = sumF F' os := by
  rw [show F = F' from funext h]
theorem step_good {L : List (Int × Int)} {f : Int → Int} (g : Good L f) (p w : Int) : Good (stepL p L w) (fun x => if p = 1 then f x + f (x - w) else f (x + w) + f x + f (x - w)) := by
  have z : Good [] (fun _ => 0) := ⟨List.nodup_nil, fun x => rfl, fun x => Int.le_refl _⟩
  have hp : ∀ o ∈ L.map (·.1), 0 < Bw.K3.fv L o := fun o ho => by rw [g.fv]; exact (g.key o).mp ho
  have b := outer_good (L := L) p w (L.map (·.1)) z hp
  have e : ∀ y, (if y ∈ L.map (·.1) then f y else 0) = f y := fun y => by
    split
    · rfl
    · rename_i h
      have := g.nn y
      rw [g.key] at h
      omega
  have s : ∀ y, sumF (fun o => if y = o then f o else 0) (L.map (·.1)) = f y := fun y => by rw [sum_if y _ g.nd, e]
  have t : ∀ x, (0 : Int) + sumF (fun o => one p w o (Bw.K3.fv L o) x) (L.map (·.1)) = if p = 1 then f x + f (x - w) else f (x + w) + f x + f (x - w) := fun x => by
    rw [Int.zero_add]
    have e1 : ∀ o, (if x = o + w then f o else 0) = (if x - w = o then f o else 0) := fun o => by
      by_cases h : x = o + w
      · rw [if_pos h, if_pos (by omega)]
      · rw [if_neg h, if_neg (by omega)]
    have e2 : ∀ o, (if x = o - w then f o else 0) = (if x + w = o then f o else 0) := fun o => by
      by_cases h : x = o - w
      · rw [if_pos h, if_pos (by omega)]
      · rw [if_neg h, if_neg (by omega)]
    unfold one
    by_cases h1 : p = 1
    · simp only [h1, if_true]
      rw [sum_congr (F' := fun o => (if x = o then f o else 0) + (if x - w = o then f o else 0)) (fun o => by rw [g.fv, e1])]
      rw [sum_add, s, s]
    · simp only [h1, if_false]
      rw [sum_congr (F' := fun o => ((if x + w = o then f o else 0) + (if x = o then f o else 0)) + (if x - w = o then f o else 0)) (fun o => by rw [g.fv, e1, e2])]
      rw [sum_add, sum_add, s, s, s]
  have tt := funext t
  unfold stepL
  rw [← tt]
  exact b
theorem counts_good (p : Int) : ∀ (ws : List Int), Good (countsL ws p) (cnt ws p) := by
  intro ws
  have main : ∀ (ws vs : List Int) (L : List (Int × Int)), Good L (cnt vs p) → Good (ws.foldl (stepL p) L) (cnt (vs ++ ws) p) := by
    intro ws
    induction ws with
    | nil => intro vs L h; rw [List.append_nil]; exact h
    | cons w ws ih =>
      intro vs L h
      have a := step_good h p w
      have e : (fun x => if p = 1 then cnt vs p x + cnt vs p (x - w) else cnt vs p (x + w) + cnt vs p x + cnt vs p (x - w)) = cnt (vs ++ [w]) p := funext fun x => (cnt_snoc w vs p x).symm
      rw [e] at a
      have b := ih (vs ++ [w]) _ a
      rw [List.append_assoc] at b
      exact b
  refine main ws [] [(0, 1)] ⟨by simp, fun x => ?_, cnt_nn [] p⟩
  unfold getI cnt
  by_cases h : x = 0
  · subst h; rfl
  · have : ((0 : Int) == x) = false := by simpa using fun z => h z.symm
    simp [h, this]
end Bw.K3

namespace Bw.K3
open PySem
/-! more of the number of ways -/
theorem cnt_le (p : Int) (hp : p ≠ 1) : ∀ (ws : List Int) (x : Int), cnt ws 1 x ≤ cnt ws p x
  | [], x => by simp [cnt]
  | w :: ws, x => by
    have h1 := cnt_le p hp ws x
    have h2 := cnt_le p hp ws (x - w)
    have h3 := cnt_nn ws p (x + w)
    simp only [cnt, if_true, hp, if_false]
    omega
def tot : List Int → Int
  | [] => 0
  | w :: ws => w + tot ws
theorem cnt_bound (p : Int) : ∀ (ws : List Int) (x : Int), (∀ w ∈ ws, 0 ≤ w) → cnt ws p x ≠ 0 → -(tot ws) ≤ x ∧ x ≤ tot ws ∧ (p = 1 → 0 ≤ x)
  | [], x, _, h => by
    unfold cnt at h
    split at h
    · rename_i e; subst e; simp [tot]
    · exact absurd rfl h
  | w :: ws, x, hw, h => by
    have h0 := hw w (List.mem_cons_self ..)
    have hr := fun z hz => hw z (List.mem_cons_of_mem _ hz)
    have g1 := cnt_bound p ws x hr
    have g2 := cnt_bound p ws (x - w) hr
    have g3 := cnt_bound p ws (x + w) hr
    simp only [cnt] at h
    simp only [tot]
    by_cases a1 : cnt ws p x = 0
    · by_cases a2 : cnt ws p (x - w) = 0
      · by_cases a3 : cnt ws p (x + w) = 0
        · simp [a1, a2, a3] at h
        · by_cases hp : p = 1
          · simp [a1, a2, hp] at h; subst hp; simp [a1, a2] at h
          · have := g3 a3; omega
      · have := g2 a2
        refine ⟨by omega, by omega, fun hp => ?_⟩
        have := (this.2.2 hp); omega
    · have := g1 a1
      exact ⟨by omega, by omega, this.2.2⟩
theorem cnt_sym (p : Int) (hp : p ≠ 1) : ∀ (ws : List Int) (x : Int), cnt ws p (-x) = cnt ws p x
  | [], x => by unfold cnt; by_cases h : x = 0 <;> simp [h]
  | w :: ws, x => by
    have h1 := cnt_sym p hp ws x
    have h2 := cnt_sym p hp ws (x - w)
    have h3 := cnt_sym p hp ws (x + w)
    simp only [cnt, hp, if_false]
    rw [show -x + w = -(x - w) by omega, show -x - w = -(x + w) by omega, h1, h2, h3]
    omega
theorem cnt_scale (p t : Int) (ht : 0 < t) : ∀ (ws : List Int) (x : Int), cnt (ws.map (t * ·)) p (t * x) = cnt ws p x
  | [], x => by
    simp only [List.map_nil, cnt]
    by_cases h : x = 0
    · simp [h]
    · rw [if_neg h, if_neg (Int.mul_ne_zero (by omega) h)]
  | w :: ws, x => by
    have h1 := cnt_scale p t ht ws x
    have h2 := cnt_scale p t ht ws (x - w)
    have h3 := cnt_scale p t ht ws (x + w)
    rw [Int.mul_sub] at h2
    rw [Int.mul_add] at h3
    simp only [List.map_cons, cnt, h1, h2, h3]
theorem cnt_dvd (p t : Int) : ∀ (ws : List Int) (y : Int), cnt (ws.map (t * ·)) p y ≠ 0 → ∃ x, y = t * x
  | [], y, h => by
    simp only [List.map_nil, cnt] at h
    split at h
    · rename_i e; exact ⟨0, by rw [e, Int.mul_zero]⟩
    · exact absurd rfl h
  | w :: ws, y, h => by
    simp only [List.map_cons, cnt] at h
    by_cases a1 : cnt (ws.map (t * ·)) p y = 0
    · by_cases a2 : cnt (ws.map (t * ·)) p (y - t * w) = 0
      · by_cases a3 : cnt (ws.map (t * ·)) p (y + t * w) = 0
        · simp [a1, a2, a3] at h
        · obtain ⟨x, hx⟩ := cnt_dvd p t ws _ a3
          exact ⟨x - w, by rw [Int.mul_sub]; omega⟩
      · obtain ⟨x, hx⟩ := cnt_dvd p t ws _ a2
        exact ⟨x + w, by rw [Int.mul_add]; omega⟩
    · exact cnt_dvd p t ws _ a1
/-! wbl: ascending, its members -/
theorem srt_asc {l : List Int} (h : l.Nodup) : (srt l).Pairwise (· < ·) := by
  have h1 : (l.mergeSort (fun a b => decide (a ≤ b))).Pairwise (fun a b => decide (a ≤ b) = true) :=
    List.pairwise_mergeSort (fun a b c h1 h2 => by simp only [decide_eq_true_eq] at *; omega) (fun a b => by simp only [Bool.or_eq_true, decide_eq_true_eq]; omega) _
  exact L2.lt_of_le_nodup _ (h1.imp fun h => by simpa using h) ((List.mergeSort_perm _ _).nodup_iff.mpr h)
theorem srt_mem {l : List Int} {x : Int} : x ∈ srt l ↔ x ∈ l := (List.mergeSort_perm _ _).mem_iff
theorem wbl_asc (ws : List Int) (p : Int) : (wbl ws p).Pairwise (· < ·) := srt_asc ((counts_good p ws).nd.filter _)
theorem wbl_mem {ws : List Int} {p x : Int} : x ∈ wbl ws p ↔ 0 < x ∧ 0 < cnt ws p x := by
  unfold wbl
  rw [srt_mem, List.mem_filter, (counts_good p ws).key]
  simp; omega
theorem wbl_scale {ws : List Int} {p t : Int} (ht : 0 < t) : wbl (ws.map (t * ·)) p = (wbl ws p).map (t * ·) := by
  refine asc_ext (wbl_asc _ _) ?_ fun y => ?_
  · rw [List.pairwise_map]
    exact (wbl_asc ws p).imp fun h => Int.mul_lt_mul_of_pos_left h ht
  · rw [wbl_mem, List.mem_map]
    constructor
    · rintro ⟨h1, h2⟩
      obtain ⟨x, rfl⟩ := cnt_dvd p t ws y (by omega)
      rw [cnt_scale p t ht] at h2
      exact ⟨x, wbl_mem.mpr ⟨Int.pos_of_mul_pos_right h1 ht, h2⟩, rfl⟩
    · rintro ⟨x, h, rfl⟩
      obtain ⟨h1, h2⟩ := wbl_mem.mp h
      exact ⟨Int.mul_pos ht h1, by rw [cnt_scale p t ht]; exact h2⟩
theorem tot_bound {B : Int} : ∀ (ws : List Int), (∀ w ∈ ws, 1 ≤ w ∧ w ≤ B) → 0 ≤ tot ws ∧ tot ws ≤ B * ws.length
  | [], _ => by simp [tot]
  | w :: ws, h => by
    have h1 := tot_bound ws fun z hz => h z (List.mem_cons_of_mem _ hz)
    have h2 := h w (List.mem_cons_self ..)
    simp only [tot, List.length_cons]
    have : B * ((ws.length + 1 : Nat) : Int) = B * ws.length + B := by rw [Int.natCast_add, Int.mul_add]; omega
    omega
/-! the gap -/
theorem gap_ex (ws : List Int) (p : Int) (hw : Wk8 ws) : ∃ n : Nat, n < 100000 ∧ (∀ i : Nat, i < n → (getI (countsL ws p) (1 + i)).isSome = true) ∧ getI (countsL ws p) (1 + n) = none := by
  have tb := tot_bound ws hw.rng
  have l8 := hw.l8
  have h0 : getI (countsL ws p) (1 + ((tot ws).toNat : Int)) = none := by
    rw [(counts_good p ws).eq]
    rw [if_pos]
    refine Classical.byContradiction fun h => ?_
    have := cnt_bound p ws _ (fun w hw' => by have := hw.rng w hw'; omega) h
    omega
  have main : ∀ (m s : Nat), getI (countsL ws p) (1 + ((s + m : Nat) : Int)) = none → (∀ i : Nat, i < s → (getI (countsL ws p) (1 + i)).isSome = true) → ∃ n : Nat, n ≤ s + m ∧ (∀ i : Nat, i < n → (getI (countsL ws p) (1 + i)).isSome = true) ∧ getI (countsL ws p) (1 + n) = none := by
    intro m
    induction m with
    | zero => intro s h hs; exact ⟨s, by omega, hs, by simpa using h⟩
    | succ m ih =>
      intro s h hs
      cases hq : getI (countsL ws p) (1 + (s : Int)) with
      | none => exact ⟨s, by omega, hs, hq⟩
      | some v =>
        obtain ⟨n, h1, h2, h3⟩ := ih (s + 1) (by rwa [show s + 1 + m = s + (m + 1) by omega]) (fun i hi => by
          by_cases e : i = s
          · subst e; rw [hq]; rfl
          · exact hs i (by omega))
        exact ⟨n, by omega, h2, h3⟩
  obtain ⟨n, h1, h2, h3⟩ := main (tot ws).toNat 0 (by simpa using h0) (fun i hi => by omega)
  have : 10000 * (ws.length : Int) ≤ 80000 := by omega
  exact ⟨n, by omega, h2, h3⟩
theorem gap_le {ws : List Int} {n1 n2 : Nat} (h1 : ∀ i : Nat, i < n1 → (getI (countsL ws 1) (1 + i)).isSome = true) (h2 : getI (countsL ws 2) (1 + n2) = none) : n1 ≤ n2 := by
  refine Classical.byContradiction fun h => ?_
  have a := h1 n2 (by omega)
  have b := (counts_good 1 ws).key (1 + n2)
  have c := (counts_good 2 ws).key (1 + n2)
  have d := cnt_le 2 (by decide) ws (1 + n2)
  rw [getI_key] at a
  have e := getI_key.mpr (c.mpr (by have := b.mp a; omega))
  rw [h2] at e
  cases e
/-! all ways together -/
def sv : List (Int × Int) → Int
  | [] => 0
  | p :: r => p.2 + sv r
theorem sv_put (k v : Int) : ∀ (L : List (Int × Int)), (L.map (·.1)).Nodup → sv (putI L k ((getI L k).getD 0 + v)) = sv L + v := by
  intro L h
  unfold putI
  by_cases hk : (L.any fun p => p.1 == k) = true
  · rw [if_pos hk]
    have : ∀ (M : List (Int × Int)) (u : Int), (M.map (·.1)).Nodup → (M.any fun p => p.1 == k) = true → sv (M.map fun p => if (p.1 == k) = true then (p.1, u) else p) = sv M - (getI M k).getD 0 + u := by
      intro M u
      induction M with
      | nil => intro _ h; simp at h
      | cons q M ih =>
        intro hn ha
        rw [List.map_cons, List.nodup_cons] at hn
        rw [List.map_cons, sv, sv]
        by_cases hq : (q.1 == k) = true
        · rw [if_pos hq]
          have e := eq_of_beq hq
          have : (M.map fun p => if (p.1 == k) = true then (p.1, u) else p) = M := by
            rw [List.map_congr_left (g := id) fun z hz => ?_]
            · simp
            · rw [if_neg]
              · rfl
              · intro hz2
                exact hn.1 (by rw [e, ← eq_of_beq hz2]; exact List.mem_map_of_mem (f := (·.1)) hz)
          rw [this]
          unfold getI
          rw [List.find?_cons_of_pos (p := fun p : Int × Int => p.1 == k) hq]
          simp; omega
        · rw [if_neg hq]
          have ha' : (M.any fun p => p.1 == k) = true := by
            rw [List.any_cons] at ha; simpa [hq] using ha
          rw [ih hn.2 ha']
          unfold getI
          rw [List.find?_cons_of_neg (p := fun p : Int × Int => p.1 == k) hq]
          omega
    rw [this L _ h hk]; omega
  · rw [if_neg hk]
    have : getI L k = none := by
      unfold getI
      rw [Option.map_eq_none_iff, List.find?_eq_none]
      intro q hq z
      exact hk (List.any_eq_true.mpr ⟨q, hq, z⟩)
    rw [this]
    have app : ∀ (M : List (Int × Int)) (q : Int × Int), sv (M ++ [q]) = sv M + q.2 := by
      intro M q
      induction M with
      | nil => simp [sv]
      | cons a M ih => rw [List.cons_append, sv, sv, ih]; omega
    rw [app]
    simp
theorem sv_inner (L : List (Int × Int)) (p w o : Int) : ∀ (qs : List Int) (la : List (Int × Int)), (la.map (·.1)).Nodup → sv (qs.foldl (addP L w o) la) = sv la + qs.length * fv L o ∧ ((qs.foldl (addP L w o) la).map (·.1)).Nodup
  | [], la, h => by simp; exact h
  | q :: qs, la, h => by
    have hn : ((addP L w o la q).map (·.1)).Nodup := by unfold addP; exact putI_nodup h
    obtain ⟨h1, h2⟩ := sv_inner L p w o qs _ hn
    rw [List.foldl_cons]
    refine ⟨?_, h2⟩
    rw [h1]
    have e : sv (addP L w o la q) = sv la + fv L o := by unfold addP fv; exact sv_put _ _ la h
    rw [e, List.length_cons, Int.natCast_add, Int.add_mul]
    omega
theorem sv_outer (L : List (Int × Int)) (p w : Int) : ∀ (os : List Int) (la : List (Int × Int)), (la.map (·.1)).Nodup → sv (os.foldl (fun la o => (pl p).foldl (addP L w o) la) la) = sv la + (pl p).length * sumF (fv L) os
  | [], la, h => by simp [sumF]
  | o :: os, la, h => by
    obtain ⟨h1, h2⟩ := sv_inner L p w o (pl p) la h
    rw [List.foldl_cons, sv_outer L p w os _ h2, h1, sumF, Int.mul_add]
    omega
theorem sv_keys : ∀ (L : List (Int × Int)), (L.map (·.1)).Nodup → sumF (fv L) (L.map (·.1)) = sv L
  | [], _ => rfl
  | q :: L, h => by
    rw [List.map_cons, List.nodup_cons] at h
    rw [List.map_cons, sumF, sv]
    have e0 : fv (q :: L) q.1 = q.2 := by unfold fv getI; rw [List.find?_cons_of_pos (by simp)]; rfl
    rw [e0]
    have : ∀ (os : List Int), (∀ o ∈ os, o ≠ q.1) → sumF (fv (q :: L)) os = sumF (fv L) os := by
      intro os
      induction os with
      | nil => intro _; rfl
      | cons o os ih =>
        intro ho
        rw [sumF, sumF, ih fun z hz => ho z (List.mem_cons_of_mem _ hz)]
        have : fv (q :: L) o = fv L o := by
          unfold fv getI
          rw [List.find?_cons_of_neg]
          have := ho o (List.mem_cons_self ..)
          simpa using fun z => this z.symm
        rw [this]
    rw [this _ fun o ho z => h.1 (z ▸ ho), sv_keys L h.2]
theorem sv_step {L : List (Int × Int)} (p w : Int) (h : (L.map (·.1)).Nodup) : sv (stepL p L w) = (pl p).length * sv L := by
  unfold stepL
  rw [sv_outer L p w _ [] (by simp), sv_keys L h]
  simp [sv]
def powI (b : Int) : Nat → Int
  | 0 => 1
  | n + 1 => powI b n * b
theorem sv_counts (p : Int) (ws : List Int) : sv (countsL ws p) = powI (pl p).length ws.length := by
  have main : ∀ (ws vs : List Int) (L : List (Int × Int)), Good L (cnt vs p) → sv L = powI (pl p).length vs.length → sv (ws.foldl (stepL p) L) = powI (pl p).length (vs ++ ws).length := by
    intro ws
    induction ws with
    | nil => intro vs L _ h; rw [List.append_nil]; exact h
    | cons w ws ih =>
      intro vs L g h
      have a := step_good g p w
      have e : (fun x => if p = 1 then cnt vs p x + cnt vs p (x - w) else cnt vs p (x + w) + cnt vs p x + cnt vs p (x - w)) = cnt (vs ++ [w]) p := funext fun x => (cnt_snoc w vs p x).symm
      rw [e] at a
      have b := ih (vs ++ [w]) _ a (by rw [sv_step p w g.nd, h, List.length_append]; show _ = powI _ vs.length * _; rw [Int.mul_comm])
      rw [List.append_assoc] at b
      exact b
  have := main ws [] [(0, 1)] (counts_good p []) rfl
  rw [List.nil_append] at this
  exact this
theorem sumF_perm (F : Int → Int) {a b : List Int} (h : a.Perm b) : sumF F a = sumF F b := by
  induction h with
  | nil => rfl
  | cons x _ ih => rw [sumF, sumF, ih]
  | swap x y l => simp only [sumF]; omega
  | trans _ _ h1 h2 => rw [h1, h2]
theorem sumF_split (F : Int → Int) : ∀ l : List Int, sumF F l = sumF F (l.filter fun k => decide (0 < k)) + sumF F (l.filter fun k => decide (k = 0)) + sumF F (l.filter fun k => decide (k < 0))
  | [] => rfl
  | x :: l => by
    have ih := sumF_split F l
    rw [sumF, ih]
    by_cases h1 : 0 < x
    · rw [List.filter_cons_of_pos (by simpa using h1), List.filter_cons_of_neg (by simp; omega), List.filter_cons_of_neg (by simp; omega), sumF]; omega
    · by_cases h2 : x = 0
      · rw [List.filter_cons_of_neg (by simp; omega), List.filter_cons_of_pos (by simpa using h2), List.filter_cons_of_neg (by simp; omega), sumF]; omega
      · rw [List.filter_cons_of_neg (by simp; omega), List.filter_cons_of_neg (by simp; omega), List.filter_cons_of_pos (by simp; omega), sumF]; omega
theorem sumF_map_neg (F : Int → Int) : ∀ l : List Int, sumF F (l.map fun x => -x) = sumF (fun x => F (-x)) l
  | [] => rfl
  | x :: l => by rw [List.map_cons, sumF, sumF, sumF_map_neg F l]
theorem perm_of_mem {a b : List Int} (ha : a.Nodup) (hb : b.Nodup) (h : ∀ k, k ∈ a ↔ k ∈ b) : a.Perm b := by
  have e : srt a = srt b := asc_ext (srt_asc ha) (srt_asc hb) fun k => by rw [srt_mem, srt_mem, h]
  exact ((List.mergeSort_perm a _).symm.trans (by rw [show a.mergeSort (fun a b => decide (a ≤ b)) = b.mergeSort (fun a b => decide (a ≤ b)) from e])).trans (List.mergeSort_perm b _)
theorem total_pos {ws : List Int} {p : Int} (hw : ∀ w ∈ ws, 0 ≤ w) (hp : p = 1 ∨ p = 2) :
    (if p = 1 then sumF (cnt ws p) (wbl ws p) else 2 * sumF (cnt ws p) (wbl ws p)) = powI (p + 1) ws.length - cnt ws p 0 := by
  have g := counts_good p ws
  have e1 : sumF (fv (countsL ws p)) ((countsL ws p).map (·.1)) = powI (pl p).length ws.length := by rw [sv_keys _ g.nd, sv_counts]
  rw [sum_congr (F' := cnt ws p) (fun o => g.fv o)] at e1
  rw [sumF_split] at e1
  have ew : sumF (cnt ws p) (wbl ws p) = sumF (cnt ws p) (((countsL ws p).map (·.1)).filter fun k => decide (0 < k)) := sumF_perm _ (List.mergeSort_perm _ _)
  rw [← ew] at e1
  have e0 : sumF (cnt ws p) (((countsL ws p).map (·.1)).filter fun k => decide (k = 0)) = cnt ws p 0 := by
    have hn : (((countsL ws p).map (·.1)).filter fun k => decide (k = 0)).Nodup := g.nd.filter _
    by_cases hz : (0 : Int) ∈ (countsL ws p).map (·.1)
    · have : (((countsL ws p).map (·.1)).filter fun k => decide (k = 0)).Perm [0] := perm_of_mem hn (by simp) fun k => by
        rw [List.mem_filter]; simp only [decide_eq_true_eq, List.mem_singleton]
        constructor
        · exact fun h => h.2
        · intro h; subst h; exact ⟨hz, rfl⟩
      rw [sumF_perm _ this]; simp [sumF]
    · have h0 : ¬ 0 < cnt ws p 0 := fun z => hz ((g.key 0).mpr z)
      have h1 := cnt_nn ws p 0
      have : (((countsL ws p).map (·.1)).filter fun k => decide (k = 0)) = [] := by
        rw [List.filter_eq_nil_iff]
        intro k hk z
        simp at z
        subst z
        exact hz hk
      rw [this, sumF]; omega
  rw [e0] at e1
  rcases hp with hp | hp
  · have en : (((countsL ws p).map (·.1)).filter fun k => decide (k < 0)) = [] := by
      rw [List.filter_eq_nil_iff]
      intro k hk z
      simp at z
      have h2 := (g.key k).mp hk
      have := (cnt_bound p ws k hw (by omega)).2.2 hp
      omega
    rw [en, sumF] at e1
    rw [if_pos hp]
    have el : ((pl p).length : Int) = p + 1 := by unfold pl; rw [if_pos hp, hp]; rfl
    rw [el] at e1
    omega
  · have hp1 : p ≠ 1 := by omega
    have en : sumF (cnt ws p) (((countsL ws p).map (·.1)).filter fun k => decide (k < 0)) = sumF (cnt ws p) (wbl ws p) := by
      have : (((countsL ws p).map (·.1)).filter fun k => decide (k < 0)).Perm ((wbl ws p).map fun x => -x) := perm_of_mem (g.nd.filter _) ?_ fun k => ?_
      · rw [sumF_perm _ this, sumF_map_neg]
        exact sum_congr (fun o => cnt_sym p hp1 ws o) _
      · have := (wbl_asc ws p)
        refine List.Pairwise.imp (R := fun a b => b < a) (fun h => by omega) ?_
        rw [List.pairwise_map]
        exact this.imp fun h => by omega
      · rw [List.mem_filter, g.key, List.mem_map]
        simp only [decide_eq_true_eq]
        constructor
        · rintro ⟨h1, h2⟩
          exact ⟨-k, wbl_mem.mpr ⟨by omega, by rw [cnt_sym p hp1]; exact h1⟩, by omega⟩
        · rintro ⟨x, hx, rfl⟩
          obtain ⟨h1, h2⟩ := wbl_mem.mp hx
          exact ⟨by rw [cnt_sym p hp1]; exact h2, by omega⟩
    rw [en] at e1
    rw [if_neg hp1]
    have el : ((pl p).length : Int) = p + 1 := by unfold pl; rw [if_neg hp1, hp]; rfl
    rw [el] at e1
    omega
end Bw.K3

namespace Bw.K3
open PySem
theorem atI_nat {α : Type} (l : List α) (i : Nat) (h : i < l.length) : L2.atI l (i : Int) = l[i]? := by
  unfold L2.atI
  have : L2.ixN l.length (i : Int) = some i := by
    unfold L2.ixN
    rw [if_pos (by omega)]
    simp; omega
  rw [this]; rfl
theorem atI_zero {α : Type} (x : α) (l : List α) : L2.atI (x :: l) 0 = some x := atI_nat (x :: l) 0 (by simp)
theorem atI_last {α : Type} (x : α) (l : List α) : L2.atI (l ++ [x]) (-1) = some x := by
  unfold L2.atI
  have : L2.ixN (l ++ [x]).length (-1) = some l.length := by
    unfold L2.ixN
    rw [List.length_append, List.length_singleton]
    simp; omega
  rw [this]
  show (l ++ [x])[l.length]? = _
  rw [List.getElem?_append_right (Nat.le_refl _)]; simp
/-! _first -/
def fq (ws : List Int) (p w a : Int) : Int := if p ≠ 1 ∧ 0 < cnt ws p (a + w) then -1 else if 0 < cnt ws p a then 0 else 1
def firstW : List Int → Int → Int → List Int
  | [], _, _ => []
  | w :: ws, p, a => fq ws p w a :: firstW ws p (a - fq ws p w a * w)
theorem look_cnt (ws : List Int) (p x : Int) : (lookD (kvI .int (countsL ws p)) (.int x)).isSome = decide (0 < cnt ws p x) := by
  rw [lookD_int, Option.isSome_map, (counts_good p ws).eq]
  have := cnt_nn ws p x
  split
  · rename_i h; simp [h]
  · simp; omega
theorem k__first : (tabOf tab).lookup ("_first" : Str) = some t__first.df := by rfl
theorem c__first : ∀ (ws : List Int) (k : Nat) (p a : Int), (p = 1 ∨ p = 2) → (∀ w ∈ ws, -400000 ≤ w ∧ w ≤ 400000) → ws.length ≤ 8 → 0 < cnt ws p a → C (k + ws.length + 3) "_first" [tpI ws, .int p, .int a] = some (tpI (firstW ws p a))
  | [], k, p, a, hp, hw, hl, h => by
    have e : a = 0 := by
      unfold cnt at h
      split at h
      · assumption
      · omega
    subst e
    rw [cS k__first]
    simp only [run1, Tx.df, t__first, b__first, e_non, e_bl, e_int, e_str, e_var, e_glob, e_bin, e_neg, e_cmp, e_isN, e_notN, e_chain, e_and_, e_or_, e_not_, e_ite, e_tup, e_lst, e_idx, e_sl, e_rev, e_sset, e_rng, e_call, e_callv, e_blt, e_isi, e_dis, e_dget, z_frz, z_app, z_ext, z_drop, z_set, z_setT, z_par, z_aug, z_put, z_augPut, z_ite, z_ret, z_retN, z_pass, z_brk, z_cont, z_never, z_nil, z_cons, evAnd, evOr, evF, evV, evKV, evI, evC, evP, seqF, setS, varOf, parS, augS, augI, appS, extS, putS, frzL, frzR, bindT, bindL, wipeR, kz, bz, oneI, dBin, dCmp, cLt, cLe, cGt, cGe, cEq_int, cNe_int, dIdx, dBi, bLen, bAbs, bInt, bSum, bMin, bMax, bAny, bAll, bSorted, bList, bTuple, isiD, noneB, fewD, dSl, Option.bind_some, Option.map_some, Option.bind_none, Option.map_none, isKey, keyD, zipD, intsD_map, boolsD_map, boolsD_mapf, intsD_mapf, Option.isSome_some, Nat.reduceLeDiff, Nat.zero_le, List.foldl_nil, List.length_cons, List.length_nil, List.length_map, List.map_cons, List.map_nil, List.cons_append, List.nil_append, List.replicate, List.getElem?_cons_zero, List.getElem?_cons_succ, List.set_cons_zero, List.set_cons_succ, ↓reduceIte, Bool.not_true, Bool.not_false, and_self, and_true, true_and, Bool.false_eq_true, reduceCtorEq, decide_true, decide_false, Nat.reduceAdd, Nat.reduceLT, Nat.reduceSub, Nat.reduceEqDiff, ne_eq, not_true_eq_false, not_false_eq_true, Option.some.injEq, exists_eq_left, Int.reduceNeg, beq_self_eq_true, Nat.zero_add, Nat.add_zero, tpI, firstW]
    simp
  | w :: ws, k, p, a, hp, hw, hl, h => by
    rw [List.length_cons] at hl
    rw [List.length_cons, show k + (ws.length + 1) + 3 = (k + ws.length + 3) + 1 by omega, cS k__first]
    have hw0 := hw w (List.mem_cons_self ..)
    have hw' := fun z hz => hw z (List.mem_cons_of_mem _ hz)
    have cc := c__counts (k + ws.length + 1) ws p hw' (by omega)
    have cp := c__places (k + ws.length + 2) p
    have rec_ := fun b hb => c__first ws k p b hp hw' (by omega) hb
    have hc : cutD ((w :: ws).map PyData.int) (some 1) none = ws.map .int := by rw [cut1 (w :: ws) (by simp)]; rfl
    simp only [List.map_cons] at hc
    have m0 := mul_ok (i := 0) (j := w) (by omega) (by omega) hw0.1 hw0.2
    have m1 := mul_ok (i := 1) (j := w) (by omega) (by omega) hw0.1 hw0.2
    have m2 := mul_ok (i := -1) (j := w) (by omega) (by omega) hw0.1 hw0.2
    have hlen : ¬ ((ws.length : Int) + 1 = 0) := by omega
    have fl : ∀ b, (tpI (firstW ws p b)) = .tuple ((firstW ws p b).map .int) := fun b => rfl
    have fll : ∀ (ws : List Int) b, (firstW ws p b).length = ws.length := by
      intro ws
      induction ws with
      | nil => intro b; rfl
      | cons w ws ih => intro b; rw [firstW, List.length_cons, List.length_cons, ih]
    have fl2 : ∀ b, 1 + (firstW ws p b).length ≤ 100000 := fun b => by rw [fll]; omega
    have hfq : ∀ q, fq ws p w a = q → 0 < cnt ws p (a - q * w) → firstW (w :: ws) p a = q :: firstW ws p (a - q * w) := fun q hq _ => by rw [firstW, hq]
    rcases hp with hp | hp
    · subst hp
      simp only [pl, if_true] at cp
      unfold cnt at h
      simp only [if_true] at h
      have n1 := cnt_nn ws 1 a
      have n2 := cnt_nn ws 1 (a - w)
      by_cases h0 : 0 < cnt ws 1 a
      · have hq : fq ws 1 w a = 0 := by unfold fq; simp [h0]
        have e0 : decide (0 < cnt ws 1 (a - 0 * w)) = true := by rw [Int.zero_mul, Int.sub_zero]; simpa using h0
        have r0 := rec_ (a - 0 * w) (by rw [Int.zero_mul, Int.sub_zero]; exact h0)
        simp only [tpI] at cc cp r0 ⊢
        simp only [run1, Tx.df, t__first, b__first, e_non, e_bl, e_int, e_str, e_var, e_glob, e_bin, e_neg, e_cmp, e_isN, e_notN, e_chain, e_and_, e_or_, e_not_, e_ite, e_tup, e_lst, e_idx, e_sl, e_rev, e_sset, e_rng, e_call, e_callv, e_blt, e_isi, e_dis, e_dget, z_frz, z_app, z_ext, z_drop, z_set, z_setT, z_par, z_aug, z_put, z_augPut, z_ite, z_ret, z_retN, z_pass, z_brk, z_cont, z_never, z_nil, z_cons, evAnd, evOr, evF, evV, evKV, evI, evC, evP, seqF, setS, varOf, parS, augS, augI, appS, extS, putS, frzL, frzR, bindT, bindL, wipeR, kz, bz, oneI, dBin, dCmp, cLt, cLe, cGt, cGe, cEq_int, cNe_int, dIdx, dBi, bLen, bAbs, bInt, bSum, bMin, bMax, bAny, bAll, bSorted, bList, bTuple, isiD, noneB, fewD, dSl, Option.bind_some, Option.map_some, Option.bind_none, Option.map_none, isKey, keyD, zipD, intsD_map, boolsD_map, boolsD_mapf, intsD_mapf, Option.isSome_some, Nat.reduceLeDiff, Nat.zero_le, List.foldl_nil, List.length_cons, List.length_nil, List.length_map, List.map_cons, List.map_nil, List.cons_append, List.nil_append, List.replicate, List.getElem?_cons_zero, List.getElem?_cons_succ, List.set_cons_zero, List.set_cons_succ, ↓reduceIte, Bool.not_true, Bool.not_false, and_self, and_true, true_and, Bool.false_eq_true, reduceCtorEq, decide_true, decide_false, Nat.reduceAdd, Nat.reduceLT, Nat.reduceSub, Nat.reduceEqDiff, ne_eq, not_true_eq_false, not_false_eq_true, Option.some.injEq, exists_eq_left, Int.reduceNeg, beq_self_eq_true, Nat.zero_add, Nat.add_zero, List.map_cons, atI_zero, hc, cc, cp, evS, forF, cIn, realD_int, look_cnt, m0, e0, r0, Int.natCast_add, hlen, Int.natCast_one, fl2]
        rw [hfq 0 hq (by rw [Int.zero_mul, Int.sub_zero]; exact h0)]
        rfl
      · have hq : fq ws 1 w a = 1 := by unfold fq; simp [h0]
        have e0 : decide (0 < cnt ws 1 (a - 0 * w)) = false := by rw [Int.zero_mul, Int.sub_zero]; simpa using h0
        have e1 : decide (0 < cnt ws 1 (a - 1 * w)) = true := by rw [Int.one_mul]; simp; omega
        have r0 := rec_ (a - 1 * w) (by rw [Int.one_mul]; omega)
        simp only [tpI] at cc cp r0 ⊢
        simp only [run1, Tx.df, t__first, b__first, e_non, e_bl, e_int, e_str, e_var, e_glob, e_bin, e_neg, e_cmp, e_isN, e_notN, e_chain, e_and_, e_or_, e_not_, e_ite, e_tup, e_lst, e_idx, e_sl, e_rev, e_sset, e_rng, e_call, e_callv, e_blt, e_isi, e_dis, e_dget, z_frz, z_app, z_ext, z_drop, z_set, z_setT, z_par, z_aug, z_put, z_augPut, z_ite, z_ret, z_retN, z_pass, z_brk, z_cont, z_never, z_nil, z_cons, evAnd, evOr, evF, evV, evKV, evI, evC, evP, seqF, setS, varOf, parS, augS, augI, appS, extS, putS, frzL, frzR, bindT, bindL, wipeR, kz, bz, oneI, dBin, dCmp, cLt, cLe, cGt, cGe, cEq_int, cNe_int, dIdx, dBi, bLen, bAbs, bInt, bSum, bMin, bMax, bAny, bAll, bSorted, bList, bTuple, isiD, noneB, fewD, dSl, Option.bind_some, Option.map_some, Option.bind_none, Option.map_none, isKey, keyD, zipD, intsD_map, boolsD_map, boolsD_mapf, intsD_mapf, Option.isSome_some, Nat.reduceLeDiff, Nat.zero_le, List.foldl_nil, List.length_cons, List.length_nil, List.length_map, List.map_cons, List.map_nil, List.cons_append, List.nil_append, List.replicate, List.getElem?_cons_zero, List.getElem?_cons_succ, List.set_cons_zero, List.set_cons_succ, ↓reduceIte, Bool.not_true, Bool.not_false, and_self, and_true, true_and, Bool.false_eq_true, reduceCtorEq, decide_true, decide_false, Nat.reduceAdd, Nat.reduceLT, Nat.reduceSub, Nat.reduceEqDiff, ne_eq, not_true_eq_false, not_false_eq_true, Option.some.injEq, exists_eq_left, Int.reduceNeg, beq_self_eq_true, Nat.zero_add, Nat.add_zero, List.map_cons, atI_zero, hc, cc, cp, evS, forF, cIn, realD_int, look_cnt, m0, m1, e0, e1, r0, Int.natCast_add, hlen, Int.natCast_one, fl2]
        rw [hfq 1 hq (by rw [Int.one_mul]; omega)]
        rfl
    · subst hp
      simp only [pl, show ¬ ((2 : Int) = 1) by decide, if_false] at cp
      unfold cnt at h
      simp only [show ¬ ((2 : Int) = 1) by decide, if_false] at h
      have n1 := cnt_nn ws 2 a
      have n2 := cnt_nn ws 2 (a - w)
      have n3 := cnt_nn ws 2 (a + w)
      have ea : a - -1 * w = a + w := by omega
      by_cases hm : 0 < cnt ws 2 (a + w)
      · have hq : fq ws 2 w a = -1 := by unfold fq; simp [hm]
        have e0 : decide (0 < cnt ws 2 (a - -1 * w)) = true := by rw [ea]; simpa using hm
        have r0 := rec_ (a - -1 * w) (by rw [ea]; exact hm)
        simp only [tpI] at cc cp r0 ⊢
        simp only [run1, Tx.df, t__first, b__first, e_non, e_bl, e_int, e_str, e_var, e_glob, e_bin, e_neg, e_cmp, e_isN, e_notN, e_chain, e_and_, e_or_, e_not_, e_ite, e_tup, e_lst, e_idx, e_sl, e_rev, e_sset, e_rng, e_call, e_callv, e_blt, e_isi, e_dis, e_dget, z_frz, z_app, z_ext, z_drop, z_set, z_setT, z_par, z_aug, z_put, z_augPut, z_ite, z_ret, z_retN, z_pass, z_brk, z_cont, z_never, z_nil, z_cons, evAnd, evOr, evF, evV, evKV, evI, evC, evP, seqF, setS, varOf, parS, augS, augI, appS, extS, putS, frzL, frzR, bindT, bindL, wipeR, kz, bz, oneI, dBin, dCmp, cLt, cLe, cGt, cGe, cEq_int, cNe_int, dIdx, dBi, bLen, bAbs, bInt, bSum, bMin, bMax, bAny, bAll, bSorted, bList, bTuple, isiD, noneB, fewD, dSl, Option.bind_some, Option.map_some, Option.bind_none, Option.map_none, isKey, keyD, zipD, intsD_map, boolsD_map, boolsD_mapf, intsD_mapf, Option.isSome_some, Nat.reduceLeDiff, Nat.zero_le, List.foldl_nil, List.length_cons, List.length_nil, List.length_map, List.map_cons, List.map_nil, List.cons_append, List.nil_append, List.replicate, List.getElem?_cons_zero, List.getElem?_cons_succ, List.set_cons_zero, List.set_cons_succ, ↓reduceIte, Bool.not_true, Bool.not_false, and_self, and_true, true_and, Bool.false_eq_true, reduceCtorEq, decide_true, decide_false, Nat.reduceAdd, Nat.reduceLT, Nat.reduceSub, Nat.reduceEqDiff, ne_eq, not_true_eq_false, not_false_eq_true, Option.some.injEq, exists_eq_left, Int.reduceNeg, beq_self_eq_true, Nat.zero_add, Nat.add_zero, List.map_cons, atI_zero, hc, cc, cp, evS, forF, cIn, realD_int, look_cnt, m2, e0, r0, Int.natCast_add, hlen, Int.natCast_one, fl2]
        rw [hfq (-1) hq (by rw [ea]; exact hm)]
        rfl
      · have em : decide (0 < cnt ws 2 (a - -1 * w)) = false := by rw [ea]; simpa using hm
        by_cases h0 : 0 < cnt ws 2 a
        · have hq : fq ws 2 w a = 0 := by unfold fq; simp [h0, hm]
          have e0 : decide (0 < cnt ws 2 (a - 0 * w)) = true := by rw [Int.zero_mul, Int.sub_zero]; simpa using h0
          have r0 := rec_ (a - 0 * w) (by rw [Int.zero_mul, Int.sub_zero]; exact h0)
          simp only [tpI] at cc cp r0 ⊢
          simp only [run1, Tx.df, t__first, b__first, e_non, e_bl, e_int, e_str, e_var, e_glob, e_bin, e_neg, e_cmp, e_isN, e_notN, e_chain, e_and_, e_or_, e_not_, e_ite, e_tup, e_lst, e_idx, e_sl, e_rev, e_sset, e_rng, e_call, e_callv, e_blt, e_isi, e_dis, e_dget, z_frz, z_app, z_ext, z_drop, z_set, z_setT, z_par, z_aug, z_put, z_augPut, z_ite, z_ret, z_retN, z_pass, z_brk, z_cont, z_never, z_nil, z_cons, evAnd, evOr, evF, evV, evKV, evI, evC, evP, seqF, setS, varOf, parS, augS, augI, appS, extS, putS, frzL, frzR, bindT, bindL, wipeR, kz, bz, oneI, dBin, dCmp, cLt, cLe, cGt, cGe, cEq_int, cNe_int, dIdx, dBi, bLen, bAbs, bInt, bSum, bMin, bMax, bAny, bAll, bSorted, bList, bTuple, isiD, noneB, fewD, dSl, Option.bind_some, Option.map_some, Option.bind_none, Option.map_none, isKey, keyD, zipD, intsD_map, boolsD_map, boolsD_mapf, intsD_mapf, Option.isSome_some, Nat.reduceLeDiff, Nat.zero_le, List.foldl_nil, List.length_cons, List.length_nil, List.length_map, List.map_cons, List.map_nil, List.cons_append, List.nil_append, List.replicate, List.getElem?_cons_zero, List.getElem?_cons_succ, List.set_cons_zero, List.set_cons_succ, ↓reduceIte, Bool.not_true, Bool.not_false, and_self, and_true, true_and, Bool.false_eq_true, reduceCtorEq, decide_true, decide_false, Nat.reduceAdd, Nat.reduceLT, Nat.reduceSub, Nat.reduceEqDiff, ne_eq, not_true_eq_false, not_false_eq_true, Option.some.injEq, exists_eq_left, Int.reduceNeg, beq_self_eq_true, Nat.zero_add, Nat.add_zero, List.map_cons, atI_zero, hc, cc, cp, evS, forF, cIn, realD_int, look_cnt, m2, m0, em, e0, r0, Int.natCast_add, hlen, Int.natCast_one, fl2]
          rw [hfq 0 hq (by rw [Int.zero_mul, Int.sub_zero]; exact h0)]
          rfl
        · have hq : fq ws 2 w a = 1 := by unfold fq; simp [h0, hm]
          have e0 : decide (0 < cnt ws 2 (a - 0 * w)) = false := by rw [Int.zero_mul, Int.sub_zero]; simpa using h0
          have e1 : decide (0 < cnt ws 2 (a - 1 * w)) = true := by rw [Int.one_mul]; simp; omega
          have r0 := rec_ (a - 1 * w) (by rw [Int.one_mul]; omega)
          simp only [tpI] at cc cp r0 ⊢
          simp only [run1, Tx.df, t__first, b__first, e_non, e_bl, e_int, e_str, e_var, e_glob, e_bin, e_neg, e_cmp, e_isN, e_notN, e_chain, e_and_, e_or_, e_not_, e_ite, e_tup, e_lst, e_idx, e_sl, e_rev, e_sset, e_rng, e_call, e_callv, e_blt, e_isi, e_dis, e_dget, z_frz, z_app, z_ext, z_drop, z_set, z_setT, z_par, z_aug, z_put, z_augPut, z_ite, z_ret, z_retN, z_pass, z_brk, z_cont, z_never, z_nil, z_cons, evAnd, evOr, evF, evV, evKV, evI, evC, evP, seqF, setS, varOf, parS, augS, augI, appS, extS, putS, frzL, frzR, bindT, bindL, wipeR, kz, bz, oneI, dBin, dCmp, cLt, cLe, cGt, cGe, cEq_int, cNe_int, dIdx, dBi, bLen, bAbs, bInt, bSum, bMin, bMax, bAny, bAll, bSorted, bList, bTuple, isiD, noneB, fewD, dSl, Option.bind_some, Option.map_some, Option.bind_none, Option.map_none, isKey, keyD, zipD, intsD_map, boolsD_map, boolsD_mapf, intsD_mapf, Option.isSome_some, Nat.reduceLeDiff, Nat.zero_le, List.foldl_nil, List.length_cons, List.length_nil, List.length_map, List.map_cons, List.map_nil, List.cons_append, List.nil_append, List.replicate, List.getElem?_cons_zero, List.getElem?_cons_succ, List.set_cons_zero, List.set_cons_succ, ↓reduceIte, Bool.not_true, Bool.not_false, and_self, and_true, true_and, Bool.false_eq_true, reduceCtorEq, decide_true, decide_false, Nat.reduceAdd, Nat.reduceLT, Nat.reduceSub, Nat.reduceEqDiff, ne_eq, not_true_eq_false, not_false_eq_true, Option.some.injEq, exists_eq_left, Int.reduceNeg, beq_self_eq_true, Nat.zero_add, Nat.add_zero, List.map_cons, atI_zero, hc, cc, cp, evS, forF, cIn, realD_int, look_cnt, m2, m0, m1, em, e0, e1, r0, Int.natCast_add, hlen, Int.natCast_one, fl2]
          rw [hfq 1 hq (by rw [Int.one_mul]; omega)]
          rfl
theorem first_scale (p t : Int) (ht : 0 < t) : ∀ (ws : List Int) (a : Int), firstW (ws.map (t * ·)) p (t * a) = firstW ws p a
  | [], _ => rfl
  | w :: ws, a => by
    have e : fq (ws.map (t * ·)) p (t * w) (t * a) = fq ws p w a := by
      unfold fq
      rw [← Int.mul_add, cnt_scale p t ht, cnt_scale p t ht]
    rw [List.map_cons, firstW, firstW, e]
    have : t * a - fq ws p w a * (t * w) = t * (a - fq ws p w a * w) := by
      rw [Int.mul_sub, Int.mul_left_comm]
    rw [this, first_scale p t ht ws]
theorem k_first_way : (tabOf tab).lookup ("first_way" : Str) = some t_first_way.df := by rfl
theorem c_first_way (k : Nat) (ws : List Int) (p a : Int) (h : Wk8 ws) (hp : p = 1 ∨ p = 2) (h1 : 1 ≤ a) (h2 : a ≤ 100000) (hr : 0 < cnt ws p a) : C (k + 12) "first_way" [tpI ws, .int p, .int a] = some (tpI (firstW ws p a)) := by
  rw [cS k_first_way]
  have l8 := h.l8
  have cf := c__first ws (k + 8 - ws.length) p a hp h.b h.l8 hr
  rw [show k + 8 - ws.length + ws.length + 3 = k + 11 by omega] at cf
  have c1 := c__check_weights (k + 9) ws h.toWok
  have c2 := c__check_pans (k + 9) p hp
  have c3 := c__check_amount (k + 9) a h1 h2
  simp only [run1, t_first_way, Tx.df, b_first_way, e_non, e_bl, e_int, e_str, e_var, e_glob, e_bin, e_neg, e_cmp, e_isN, e_notN, e_chain, e_and_, e_or_, e_not_, e_ite, e_tup, e_lst, e_idx, e_sl, e_rev, e_sset, e_rng, e_call, e_callv, e_blt, e_isi, e_dis, e_dget, z_frz, z_app, z_ext, z_drop, z_set, z_setT, z_par, z_aug, z_put, z_augPut, z_ite, z_ret, z_retN, z_pass, z_brk, z_cont, z_never, z_nil, z_cons, evAnd, evOr, evF, evV, evKV, evI, evC, evP, seqF, setS, varOf, parS, augS, augI, appS, extS, putS, frzL, frzR, bindT, bindL, wipeR, kz, bz, oneI, dBin, dCmp, cLt, cLe, cGt, cGe, cEq_int, cNe_int, dIdx, dBi, bLen, bAbs, bInt, bSum, bMin, bMax, bAny, bAll, bSorted, bList, bTuple, isiD, noneB, fewD, dSl, Option.bind_some, Option.map_some, Option.bind_none, Option.map_none, isKey, keyD, zipD, intsD_map, boolsD_map, boolsD_mapf, intsD_mapf, Option.isSome_some, Nat.reduceLeDiff, Nat.zero_le, List.foldl_nil, List.length_cons, List.length_nil, List.length_map, List.map_cons, List.map_nil, List.cons_append, List.nil_append, List.replicate, List.getElem?_cons_zero, List.getElem?_cons_succ, List.set_cons_zero, List.set_cons_succ, ↓reduceIte, Bool.not_true, Bool.not_false, and_self, and_true, true_and, Bool.false_eq_true, reduceCtorEq, decide_true, decide_false, Nat.reduceAdd, Nat.reduceLT, Nat.reduceSub, Nat.reduceEqDiff, ne_eq, not_true_eq_false, not_false_eq_true, Option.some.injEq, exists_eq_left, Int.reduceNeg, beq_self_eq_true, Nat.zero_add, Nat.add_zero, c1, c2, c3, cf]
end Bw.K3

namespace Bw.K3
open PySem
/-! fewest_used -/
abbrev Row : Type := Int × List Int
def rowD (r : Row) : PyData := .tuple [.int r.1, tpI r.2]
def mn (x y : Row) : Row := if PySem.W.dataLt (rowD y) (rowD x) = true then y else x
def ab (i : Int) : Int := if i < 0 then -i else i
def nwR (L : List (Int × Row)) (o q : Int) : Row := (((getI L o).getD (0, [])).1 + ab q, ((getI L o).getD (0, [])).2 ++ [q])
def addQ (L : List (Int × Row)) (w o : Int) (la : List (Int × Row)) (q : Int) : List (Int × Row) := putI la (o + q * w) (mn ((getI la (o + q * w)).getD (nwR L o q)) (nwR L o q))
def stepQ (p : Int) (L : List (Int × Row)) (w : Int) : List (Int × Row) := (L.map (·.1)).foldl (fun la o => (pl p).foldl (addQ L w o) la) []
def fewL (ws : List Int) (p : Int) : List (Int × Row) := ws.foldl (stepQ p) [(0, (0, []))]
abbrev dcr (L : List (Int × Row)) : PyData := .dict (kvI rowD L)
theorem alike_ints : ∀ a b : List Int, PySem.W.alikeAll (a.map .int) (b.map .int) = true
  | [], [] => by simp [PySem.W.alikeAll]
  | [], _ :: _ => by simp [PySem.W.alikeAll]
  | _ :: _, [] => by simp [PySem.W.alikeAll]
  | x :: a, y :: b => by simp [PySem.W.alikeAll, PySem.W.alike, alike_ints a b]
theorem alike_rows (x y : Row) : PySem.W.alike (rowD x) (rowD y) = true := by
  simp [rowD, tpI, PySem.W.alike, PySem.W.alikeAll, alike_ints]
theorem minRow (x y : Row) : minL [rowD x, rowD y] = some (rowD (mn x y)) := by
  unfold minL
  dsimp only
  rw [if_pos]
  · unfold PySem.W.minD mn
    simp only [List.foldl_cons, List.foldl_nil]
    split <;> rfl
  · refine ⟨?_, ?_, ?_⟩
    · simp [alikeB, alike_rows]
    · have h1 := depth_int x.2
      have h2 := depth_int y.2
      simp only [rowD, tpI, PyData.depthAll, PyData.depth]
      omega
    · simp [rowD, noneB]
theorem addQ_len (L : List (Int × Row)) (w o : Int) : ∀ (qs : List Int) (la : List (Int × Row)), (qs.foldl (addQ L w o) la).length ≤ la.length + qs.length
  | [], la => by simp
  | q :: qs, la => by
    have h1 := addQ_len L w o qs (addQ L w o la q)
    have h2 := putI_length la (o + q * w) (mn ((getI la (o + q * w)).getD (nwR L o q)) (nwR L o q))
    rw [List.foldl_cons, List.length_cons]
    unfold addQ at h1 ⊢
    omega
theorem innerQ_len (p : Int) (L : List (Int × Row)) (w : Int) : ∀ (os : List Int) (la : List (Int × Row)), (os.foldl (fun la o => (pl p).foldl (addQ L w o) la) la).length ≤ la.length + 3 * os.length
  | [], la => by simp
  | o :: os, la => by
    have h1 := innerQ_len p L w os ((pl p).foldl (addQ L w o) la)
    have h2 := addQ_len L w o (pl p) la
    have h3 := pl_len p
    rw [List.foldl_cons, List.length_cons]
    omega
theorem stepQ_len (p : Int) (L : List (Int × Row)) (w : Int) : (stepQ p L w).length ≤ 3 * L.length := by
  have := innerQ_len p L w (L.map (·.1)) []
  unfold stepQ
  rw [List.length_map] at this
  simpa using this
/-! what holds of the rows -/
def dot : List Int → List Int → Int
  | q :: qs, w :: ws => q * w + dot qs ws
  | _, _ => 0
theorem dot_snoc (q w : Int) : ∀ (qs ws : List Int), qs.length = ws.length → dot (qs ++ [q]) (ws ++ [w]) = dot qs ws + q * w
  | [], [], _ => by simp [dot]
  | [], _ :: _, h => by simp at h
  | _ :: _, [], h => by simp at h
  | a :: qs, b :: ws, h => by
    have := dot_snoc q w qs ws (by simpa using h)
    simp only [List.cons_append, dot, this]; omega
def InvQ (ws : List Int) (p : Int) (L : List (Int × Row)) : Prop := ∀ k b, getI L k = some b → b.2.length = ws.length ∧ (∀ q ∈ b.2, q ∈ pl p) ∧ dot b.2 ws = k
theorem invQ_add {ws : List Int} {p w o : Int} {L la : List (Int × Row)} {q : Int} (h : InvQ ws p L) (ho : (getI L o).isSome = true) (hq : q ∈ pl p) (hla : InvQ (ws ++ [w]) p la) : InvQ (ws ++ [w]) p (addQ L w o la q) := by
  obtain ⟨b, hb⟩ := Option.isSome_iff_exists.mp ho
  obtain ⟨h1, h2, h3⟩ := h o b hb
  have hn : (nwR L o q).2.length = (ws ++ [w]).length ∧ (∀ z ∈ (nwR L o q).2, z ∈ pl p) ∧ dot (nwR L o q).2 (ws ++ [w]) = o + q * w := by
    unfold nwR
    rw [hb]
    simp only [Option.getD_some]
    refine ⟨by simp [h1], fun z hz => ?_, ?_⟩
    · rcases List.mem_append.mp hz with hz | hz
      · exact h2 z hz
      · simp at hz; subst hz; exact hq
    · rw [dot_snoc q w _ _ h1, h3]
  intro k' b' e
  unfold addQ at e
  rw [getI_put] at e
  by_cases hk : k' = o + q * w
  · rw [if_pos hk] at e
    cases e
    subst hk
    unfold mn
    split
    · exact hn
    · cases hg : getI la (o + q * w) with
      | none => exact hn
      | some b2 => exact hla _ b2 hg
  · rw [if_neg hk] at e
    exact hla k' b' e
theorem invQ_in {ws : List Int} {p w o : Int} {L : List (Int × Row)} (h : InvQ ws p L) (ho : (getI L o).isSome = true) : ∀ (qs : List Int) (la : List (Int × Row)), (∀ q ∈ qs, q ∈ pl p) → InvQ (ws ++ [w]) p la → InvQ (ws ++ [w]) p (qs.foldl (addQ L w o) la)
  | [], la, _, hl => hl
  | q :: qs, la, hq, hl => invQ_in h ho qs _ (fun z hz => hq z (List.mem_cons_of_mem _ hz)) (invQ_add h ho (hq q (List.mem_cons_self ..)) hl)
theorem invQ_out {ws : List Int} {p w : Int} {L : List (Int × Row)} (h : InvQ ws p L) : ∀ (os : List Int) (la : List (Int × Row)), (∀ o ∈ os, (getI L o).isSome = true) → InvQ (ws ++ [w]) p la → InvQ (ws ++ [w]) p (os.foldl (fun la o => (pl p).foldl (addQ L w o) la) la)
  | [], la, _, hl => hl
  | o :: os, la, ho, hl => invQ_out h os _ (fun z hz => ho z (List.mem_cons_of_mem _ hz)) (invQ_in h (ho o (List.mem_cons_self ..)) (pl p) la (fun _ z => z) hl)
theorem invQ_step {ws : List Int} {p w : Int} {L : List (Int × Row)} (h : InvQ ws p L) : InvQ (ws ++ [w]) p (stepQ p L w) :=
  invQ_out h _ [] (fun o ho => getI_key.mpr ho) (fun k b e => by cases e)
theorem fewL_snoc (ws : List Int) (w p : Int) : fewL (ws ++ [w]) p = stepQ p (fewL ws p) w := by
  unfold fewL; rw [List.foldl_append]; rfl
theorem invQ0 (p : Int) : InvQ [] p [(0, ((0, []) : Row))] := fun k b e => by
  unfold getI at e
  rw [List.find?_cons] at e
  cases hk : ((0 : Int) == k) with
  | true =>
    rw [hk] at e
    cases e
    exact ⟨rfl, fun q hq => by simp at hq, by rw [← eq_of_beq hk]; rfl⟩
  | false => rw [hk] at e; cases e
theorem fewL_inv (p : Int) (ws : List Int) : InvQ ws p (fewL ws p) := by
  have main : ∀ (us vs : List Int) (L : List (Int × Row)), InvQ vs p L → InvQ (vs ++ us) p (us.foldl (stepQ p) L) := by
    intro us
    induction us with
    | nil => intro vs L h; rw [List.append_nil]; exact h
    | cons u us ih =>
      intro vs L h
      have := ih (vs ++ [u]) _ (invQ_step (w := u) h)
      rw [List.append_assoc] at this
      exact this
  have := main ws [] _ (invQ0 p)
  rw [List.nil_append] at this
  exact this
/-! the keys are those of the counts -/
theorem keys_put {β γ : Type} {A : List (Int × β)} {B : List (Int × γ)} (h : A.map (·.1) = B.map (·.1)) (k : Int) (a : β) (b : γ) : (putI A k a).map (·.1) = (putI B k b).map (·.1) := by
  rw [putI_keys, putI_keys, h]
theorem keys_in {L : List (Int × Int)} {M : List (Int × Row)} (w o : Int) : ∀ (qs : List Int) (A : List (Int × Int)) (B : List (Int × Row)), A.map (·.1) = B.map (·.1) → (qs.foldl (addP L w o) A).map (·.1) = (qs.foldl (addQ M w o) B).map (·.1)
  | [], A, B, h => h
  | q :: qs, A, B, h => keys_in w o qs _ _ (by unfold addP addQ; exact keys_put h _ _ _)
theorem keys_out {L : List (Int × Int)} {M : List (Int × Row)} (p w : Int) : ∀ (os : List Int) (A : List (Int × Int)) (B : List (Int × Row)), A.map (·.1) = B.map (·.1) → (os.foldl (fun la o => (pl p).foldl (addP L w o) la) A).map (·.1) = (os.foldl (fun la o => (pl p).foldl (addQ M w o) la) B).map (·.1)
  | [], A, B, h => h
  | o :: os, A, B, h => keys_out p w os _ _ (keys_in w o (pl p) A B h)
theorem keys_all (p : Int) : ∀ (ws : List Int) (L : List (Int × Int)) (M : List (Int × Row)), L.map (·.1) = M.map (·.1) → (ws.foldl (stepL p) L).map (·.1) = (ws.foldl (stepQ p) M).map (·.1)
  | [], L, M, h => h
  | w :: ws, L, M, h => keys_all p ws _ _ (by unfold stepL stepQ; rw [h]; exact keys_out p w _ [] [] rfl)
theorem few_keys (ws : List Int) (p : Int) : (fewL ws p).map (·.1) = (countsL ws p).map (·.1) := (keys_all p ws [(0, 1)] [(0, (0, []))] rfl).symm
theorem few_some {ws : List Int} {p a : Int} (h : 0 < cnt ws p a) : ∃ b, getI (fewL ws p) a = some b := by
  refine Option.isSome_iff_exists.mp (getI_key.mpr ?_)
  rw [few_keys]
  exact ((counts_good p ws).key a).mpr h
/-! so many times as heavy: the same rows -/
def mk (t : Int) (L : List (Int × Row)) : List (Int × Row) := L.map fun p => (t * p.1, p.2)
theorem mk_get {t : Int} (ht : 0 < t) (L : List (Int × Row)) (k : Int) : getI (mk t L) (t * k) = getI L k := by
  unfold getI mk
  induction L with
  | nil => rfl
  | cons p L ih =>
    rw [List.map_cons, List.find?_cons, List.find?_cons]
    by_cases h : p.1 = k
    · simp [h]
    · have h1 : (p.1 == k) = false := by simpa using h
      have h2 : (t * p.1 == t * k) = false := by
        simp only [beq_eq_false_iff_ne, ne_eq]
        intro z
        exact h (Int.eq_of_mul_eq_mul_left (by omega) z)
      rw [h1, h2]; exact ih
theorem mk_keys (t : Int) (L : List (Int × Row)) : (mk t L).map (·.1) = (L.map (·.1)).map (t * ·) := by
  unfold mk; rw [List.map_map, List.map_map]; rfl
theorem mk_put {t : Int} (ht : 0 < t) (L : List (Int × Row)) (k : Int) (v : Row) : putI (mk t L) (t * k) v = mk t (putI L k v) := by
  have e : ∀ p : Int × Row, (t * p.1 == t * k) = (p.1 == k) := fun p => by
    by_cases h : p.1 = k
    · simp [h]
    · have h1 : (p.1 == k) = false := by simpa using h
      rw [h1]
      simp only [beq_eq_false_iff_ne, ne_eq]
      intro z
      exact h (Int.eq_of_mul_eq_mul_left (by omega) z)
  unfold putI mk
  rw [List.any_map]
  have e2 : (L.any ((fun p : Int × Row => p.1 == t * k) ∘ fun p => (t * p.1, p.2))) = L.any fun p => p.1 == k := by
    congr 1; funext p; exact e p
  rw [e2]
  split
  · rw [List.map_map, List.map_map]
    congr 1
    funext p
    simp only [Function.comp]
    rw [e p]
    by_cases hp : (p.1 == k) = true
    · rw [if_pos hp, if_pos hp]
    · rw [if_neg hp, if_neg hp]
  · rw [List.map_append]; rfl
theorem mk_add {t : Int} (ht : 0 < t) (L la : List (Int × Row)) (w o q : Int) : addQ (mk t L) (t * w) (t * o) (mk t la) q = mk t (addQ L w o la q) := by
  have e : t * o + q * (t * w) = t * (o + q * w) := by rw [Int.mul_add, Int.mul_left_comm]
  unfold addQ
  have e2 : nwR (mk t L) (t * o) q = nwR L o q := by unfold nwR; rw [mk_get ht]
  rw [e, e2, mk_get ht, mk_put ht]
theorem mk_in {t : Int} (ht : 0 < t) (L : List (Int × Row)) (w o : Int) : ∀ (qs : List Int) (la : List (Int × Row)), qs.foldl (addQ (mk t L) (t * w) (t * o)) (mk t la) = mk t (qs.foldl (addQ L w o) la)
  | [], la => rfl
  | q :: qs, la => by rw [List.foldl_cons, List.foldl_cons, mk_add ht, mk_in ht L w o qs]
theorem mk_out {t : Int} (ht : 0 < t) (L : List (Int × Row)) (p w : Int) : ∀ (os : List Int) (la : List (Int × Row)), (os.map (t * ·)).foldl (fun la o => (pl p).foldl (addQ (mk t L) (t * w) o) la) (mk t la) = mk t (os.foldl (fun la o => (pl p).foldl (addQ L w o) la) la)
  | [], la => rfl
  | o :: os, la => by rw [List.map_cons, List.foldl_cons, List.foldl_cons, mk_in ht, mk_out ht L p w os]
theorem mk_step {t : Int} (ht : 0 < t) (L : List (Int × Row)) (p w : Int) : stepQ p (mk t L) (t * w) = mk t (stepQ p L w) := by
  unfold stepQ
  rw [mk_keys]
  exact mk_out ht L p w _ []
theorem few_scale {t : Int} (ht : 0 < t) (ws : List Int) (p : Int) : fewL (ws.map (t * ·)) p = mk t (fewL ws p) := by
  have main : ∀ (us : List Int) (L : List (Int × Row)), (us.map (t * ·)).foldl (stepQ p) (mk t L) = mk t (us.foldl (stepQ p) L) := by
    intro us
    induction us with
    | nil => intro L; rfl
    | cons u us ih => intro L; rw [List.map_cons, List.foldl_cons, List.foldl_cons, mk_step ht, ih]
  have := main ws [(0, (0, []))]
  unfold fewL
  rw [← this]
  simp [mk]
/-! its loops -/
def fb3 : Sm := (.cons (.set 10 (.tup (.cons (.bin .add (.var 7) (.blt .abs (.cons (.var 9) .nil))) (.cons (.bin .add (.var 8) (.tup (.cons (.var 9) .nil))) .nil))))
  (.cons (.set 11 (.bin .add (.var 6) (.bin .mul (.var 9) (.var 4))))
  (.cons (.frz [11])
  (.cons (.put 5 (.var 11) (.blt .min (.cons (.dget (.var 5) (.var 11) (.var 10)) (.cons (.var 10) .nil))))
  .nil))))
def fl3 : Sm := (.for_ (.nm 9) (.over (.call "_places" (.cons (.var 1) .nil))) fb3)
theorem e_fl3 (k : Nat) (W A : PyData) (p w o m : Int) (way : List Int) (L la : List (Int × Row)) (a b d : Option (Bool × PyData)) (hw : -400000 ≤ w ∧ w ≤ 400000) (ho : getI L o = some (m, way)) (hway : way.length ≤ 1000) (hla : la.length ≤ 90000) :
    ∃ a' b' d', evS (glI inf) (C (k + 1)) 100000 fl3 [some (false, W), some (false, .int p), some (false, A), some (false, dcr L), some (false, .int w), some (true, dcr la), some (false, .int o), some (false, .int m), some (false, tpI way), a, b, d] =
      some (.nx [some (false, W), some (false, .int p), some (false, A), some (false, dcr L), some (false, .int w), some (true, dcr ((pl p).foldl (addQ L w o) la)), some (false, .int o), some (false, .int m), some (false, tpI way), a', b', d']) := by
  have z := z_for (gl := glI inf) (c := C (k + 1)) (n := 100000) (ρ := [some (false, W), some (false, .int p), some (false, A), some (false, dcr L), some (false, .int w), some (true, dcr la), some (false, .int o), some (false, .int m), some (false, tpI way), a, b, d]) (t := .nm 9) (it := .over (.call "_places" (.cons (.var 1) .nil)))
    (b := fb3) (l := pl p) .int
    (fun rest ρ => ∃ la' a' b' d', ρ = [some (false, W), some (false, .int p), some (false, A), some (false, dcr L), some (false, .int w), some (true, dcr la'), some (false, .int o), some (false, .int m), some (false, tpI way), a', b', d'] ∧ la'.length + rest.length ≤ 90003 ∧ rest.foldl (addQ L w o) la' = (pl p).foldl (addQ L w o) la ∧ ∀ q ∈ rest, -1 ≤ q ∧ q ≤ 1)
    (by simp only [e_non, e_bl, e_int, e_str, e_var, e_glob, e_bin, e_neg, e_cmp, e_isN, e_notN, e_chain, e_and_, e_or_, e_not_, e_ite, e_tup, e_lst, e_idx, e_sl, e_rev, e_sset, e_rng, e_call, e_callv, e_blt, e_isi, e_dis, e_dget, z_frz, z_app, z_ext, z_drop, z_set, z_setT, z_par, z_aug, z_put, z_augPut, z_ite, z_ret, z_retN, z_pass, z_brk, z_cont, z_never, z_nil, z_cons, evAnd, evOr, evF, evV, evKV, evI, evC, evP, seqF, setS, varOf, parS, augS, augI, appS, extS, putS, frzL, frzR, bindT, bindL, wipeR, kz, bz, oneI, dBin, dCmp, cLt, cLe, cGt, cGe, cEq_int, cNe_int, dIdx, dBi, bLen, bAbs, bInt, bSum, bMin, bMax, bAny, bAll, bSorted, bList, bTuple, isiD, noneB, fewD, dSl, Option.bind_some, Option.map_some, Option.bind_none, Option.map_none, isKey, keyD, zipD, intsD_map, boolsD_map, boolsD_mapf, intsD_mapf, Option.isSome_some, Nat.reduceLeDiff, Nat.zero_le, List.foldl_nil, List.length_cons, List.length_nil, List.length_map, List.map_cons, List.map_nil, List.cons_append, List.nil_append, List.replicate, List.getElem?_cons_zero, List.getElem?_cons_succ, List.set_cons_zero, List.set_cons_succ, ↓reduceIte, Bool.not_true, Bool.not_false, and_self, and_true, true_and, Bool.false_eq_true, reduceCtorEq, decide_true, decide_false, Nat.reduceAdd, Nat.reduceLT, Nat.reduceSub, Nat.reduceEqDiff, ne_eq, not_true_eq_false, not_false_eq_true, Option.some.injEq, exists_eq_left, Int.reduceNeg, beq_self_eq_true, Nat.zero_add, Nat.add_zero, c__places, tpI, beq_iff_eq]) ⟨la, a, b, d, rfl, by have := pl_len p; omega, rfl, fun q hq => pl_rng hq⟩ ?_
  · obtain ⟨ρ', h1, la', a', b', d', h2, _, h3, _⟩ := z
    subst h2
    simp only [List.foldl_nil] at h3
    subst h3
    exact ⟨a', b', d', h1⟩
  · rintro q r ρ ⟨la', a', b', d', rfl, hl, hf, hq⟩
    have hq1 := hq q (List.mem_cons_self ..)
    have mo := mul_ok (i := q) (j := w) (by omega) (by omega) hw.1 hw.2
    rw [List.length_cons] at hl
    have hl2 : la'.length < 100000 := by omega
    have hway2 : way.length + 1 ≤ 100000 := by omega
    have er : (PyData.tuple [.int (m + (if q < 0 then -q else q)), .tuple (way.map PyData.int ++ [PyData.int q])]) = rowD (nwR L o q) := by
      unfold nwR rowD tpI ab
      rw [ho]
      simp only [Option.getD_some, List.map_append, List.map_cons, List.map_nil]
    refine ⟨_, [some (false, W), some (false, .int p), some (false, A), some (false, dcr L), some (false, .int w), some (true, dcr (addQ L w o la' q)), some (false, .int o), some (false, .int m), some (false, tpI way), some (false, .int q), some (false, rowD (nwR L o q)), some (false, .int (o + q * w))], by simp only [e_non, e_bl, e_int, e_str, e_var, e_glob, e_bin, e_neg, e_cmp, e_isN, e_notN, e_chain, e_and_, e_or_, e_not_, e_ite, e_tup, e_lst, e_idx, e_sl, e_rev, e_sset, e_rng, e_call, e_callv, e_blt, e_isi, e_dis, e_dget, z_frz, z_app, z_ext, z_drop, z_set, z_setT, z_par, z_aug, z_put, z_augPut, z_ite, z_ret, z_retN, z_pass, z_brk, z_cont, z_never, z_nil, z_cons, evAnd, evOr, evF, evV, evKV, evI, evC, evP, seqF, setS, varOf, parS, augS, augI, appS, extS, putS, frzL, frzR, bindT, bindL, wipeR, kz, bz, oneI, dBin, dCmp, cLt, cLe, cGt, cGe, cEq_int, cNe_int, dIdx, dBi, bLen, bAbs, bInt, bSum, bMin, bMax, bAny, bAll, bSorted, bList, bTuple, isiD, noneB, fewD, dSl, Option.bind_some, Option.map_some, Option.bind_none, Option.map_none, isKey, keyD, zipD, intsD_map, boolsD_map, boolsD_mapf, intsD_mapf, Option.isSome_some, Nat.reduceLeDiff, Nat.zero_le, List.foldl_nil, List.length_cons, List.length_nil, List.length_map, List.map_cons, List.map_nil, List.cons_append, List.nil_append, List.replicate, List.getElem?_cons_zero, List.getElem?_cons_succ, List.set_cons_zero, List.set_cons_succ, ↓reduceIte, Bool.not_true, Bool.not_false, and_self, and_true, true_and, Bool.false_eq_true, reduceCtorEq, decide_true, decide_false, Nat.reduceAdd, Nat.reduceLT, Nat.reduceSub, Nat.reduceEqDiff, ne_eq, not_true_eq_false, not_false_eq_true, Option.some.injEq, exists_eq_left, Int.reduceNeg, beq_self_eq_true, Nat.zero_add, Nat.add_zero]; rfl, .inl ?_, addQ L w o la' q, _, _, _, rfl, ?_, hf, fun x hx => hq x (List.mem_cons_of_mem _ hx)⟩
    · have e1 : (lookD (kvI rowD la') (.int (o + q * w))).getD (rowD (nwR L o q)) = rowD ((getI la' (o + q * w)).getD (nwR L o q)) := by
        rw [lookD_int]; cases getI la' (o + q * w) <;> rfl
      have e2 : putD (kvI rowD la') (.int (o + q * w)) (rowD (mn ((getI la' (o + q * w)).getD (nwR L o q)) (nwR L o q))) = kvI rowD (addQ L w o la' q) := by
        unfold addQ
        rw [← putD_int]
      have e3 : ∀ x y : Row, bMin [rowD x, rowD y] = some (.fz, rowD (mn x y)) := fun x y => by
        have := minRow x y
        unfold rowD at this ⊢
        simp only [bMin, this, Option.map_some]
      simp only [fb3, e_bin, e_var, e_tup, e_blt, e_dget, e_int, z_set, z_frz, z_put, z_cons, z_nil, evF, evV, seqF, setS, varOf, putS, frzL, frzR, kz, dBi, bAbs, dBin, fewD, tpI, Option.bind_some, Option.map_some, isKey, keyD, Option.isSome_some, List.length_cons, List.length_nil, List.length_append, List.length_map, List.getElem?_cons_zero, List.getElem?_cons_succ, List.set_cons_zero, List.set_cons_succ, ↓reduceIte, Nat.reduceAdd, Nat.reduceLeDiff, Nat.zero_add, Nat.add_zero, mo, hway2, er, realD_int, and_self, and_true, e1, e3, e2, kvI_length, hl2]
    · unfold addQ
      have := putI_length la' (o + q * w) (mn ((getI la' (o + q * w)).getD (nwR L o q)) (nwR L o q))
      omega
def fl2 : Sm := (.for_ (.nm 6) (.over (.var 3)) (.cons (.setT (.tp 2 (.cons (.nm 7) (.cons (.nm 8) .nil))) (.idx (.var 3) (.var 6))) (.cons fl3 .nil)))
theorem e_fl2 (k : Nat) (W A : PyData) (p w : Int) (ws : List Int) (L : List (Int × Row)) (a b d e f g : Option (Bool × PyData)) (hw : -400000 ≤ w ∧ w ≤ 400000) (hL : L.length ≤ 30000) (hi : InvQ ws p L) (hws : ws.length ≤ 1000) :
    ∃ a' b' d' e' f' g', evS (glI inf) (C (k + 1)) 100000 fl2 [some (false, W), some (false, .int p), some (false, A), some (false, dcr L), some (false, .int w), some (true, dcr []), a, b, d, e, f, g] =
      some (.nx [some (false, W), some (false, .int p), some (false, A), some (false, dcr L), some (false, .int w), some (true, dcr (stepQ p L w)), a', b', d', e', f', g']) := by
  have z := z_for (gl := glI inf) (c := C (k + 1)) (n := 100000) (ρ := [some (false, W), some (false, .int p), some (false, A), some (false, dcr L), some (false, .int w), some (true, dcr []), a, b, d, e, f, g]) (t := .nm 6) (it := .over (.var 3))
    (b := (.cons (.setT (.tp 2 (.cons (.nm 7) (.cons (.nm 8) .nil))) (.idx (.var 3) (.var 6))) (.cons fl3 .nil))) (l := L.map (·.1)) .int
    (fun rest ρ => ∃ la' a' b' d' e' f' g', ρ = [some (false, W), some (false, .int p), some (false, A), some (false, dcr L), some (false, .int w), some (true, dcr la'), a', b', d', e', f', g'] ∧ la'.length + 3 * rest.length ≤ 90000 ∧ rest.foldl (fun la o => (pl p).foldl (addQ L w o) la) la' = stepQ p L w ∧ ∀ q ∈ rest, (getI L q).isSome = true)
    (by simp only [e_non, e_bl, e_int, e_str, e_var, e_glob, e_bin, e_neg, e_cmp, e_isN, e_notN, e_chain, e_and_, e_or_, e_not_, e_ite, e_tup, e_lst, e_idx, e_sl, e_rev, e_sset, e_rng, e_call, e_callv, e_blt, e_isi, e_dis, e_dget, z_frz, z_app, z_ext, z_drop, z_set, z_setT, z_par, z_aug, z_put, z_augPut, z_ite, z_ret, z_retN, z_pass, z_brk, z_cont, z_never, z_nil, z_cons, evAnd, evOr, evF, evV, evKV, evI, evC, evP, seqF, setS, varOf, parS, augS, augI, appS, extS, putS, frzL, frzR, bindT, bindL, wipeR, kz, bz, oneI, dBin, dCmp, cLt, cLe, cGt, cGe, cEq_int, cNe_int, dIdx, dBi, bLen, bAbs, bInt, bSum, bMin, bMax, bAny, bAll, bSorted, bList, bTuple, isiD, noneB, fewD, dSl, Option.bind_some, Option.map_some, Option.bind_none, Option.map_none, isKey, keyD, zipD, intsD_map, boolsD_map, boolsD_mapf, intsD_mapf, Option.isSome_some, Nat.reduceLeDiff, Nat.zero_le, List.foldl_nil, List.length_cons, List.length_nil, List.length_map, List.map_cons, List.map_nil, List.cons_append, List.nil_append, List.replicate, List.getElem?_cons_zero, List.getElem?_cons_succ, List.set_cons_zero, List.set_cons_succ, ↓reduceIte, Bool.not_true, Bool.not_false, and_self, and_true, true_and, Bool.false_eq_true, reduceCtorEq, decide_true, decide_false, Nat.reduceAdd, Nat.reduceLT, Nat.reduceSub, Nat.reduceEqDiff, ne_eq, not_true_eq_false, not_false_eq_true, Option.some.injEq, exists_eq_left, Int.reduceNeg, beq_self_eq_true, Nat.zero_add, Nat.add_zero, realD_int, kvI_keys]) ⟨[], a, b, d, e, f, g, rfl, by rw [List.length_map, List.length_nil]; omega, rfl, fun q hq => getI_key.mpr hq⟩ ?_
  · obtain ⟨ρ', h1, la', a', b', d', e', f', g', h2, _, h3, _⟩ := z
    subst h2
    simp only [List.foldl_nil] at h3
    subst h3
    exact ⟨a', b', d', e', f', g', h1⟩
  · rintro q r ρ ⟨la', a', b', d', e', f', g', rfl, hl, hf, hq⟩
    rw [List.length_cons] at hl
    obtain ⟨⟨m, way⟩, hb⟩ := Option.isSome_iff_exists.mp (hq q (List.mem_cons_self ..))
    obtain ⟨i1, _, _⟩ := hi q _ hb
    have e0 : lookD (kvI rowD L) (.int q) = some (.tuple [.int m, tpI way]) := by rw [lookD_int, hb]; rfl
    obtain ⟨e2, f2, g2, h3⟩ := e_fl3 k W A p w q m way L la' e' f' g' hw hb (by rw [i1]; exact hws) (by omega)
    refine ⟨_, _, by simp only [e_non, e_bl, e_int, e_str, e_var, e_glob, e_bin, e_neg, e_cmp, e_isN, e_notN, e_chain, e_and_, e_or_, e_not_, e_ite, e_tup, e_lst, e_idx, e_sl, e_rev, e_sset, e_rng, e_call, e_callv, e_blt, e_isi, e_dis, e_dget, z_frz, z_app, z_ext, z_drop, z_set, z_setT, z_par, z_aug, z_put, z_augPut, z_ite, z_ret, z_retN, z_pass, z_brk, z_cont, z_never, z_nil, z_cons, evAnd, evOr, evF, evV, evKV, evI, evC, evP, seqF, setS, varOf, parS, augS, augI, appS, extS, putS, frzL, frzR, bindT, bindL, wipeR, kz, bz, oneI, dBin, dCmp, cLt, cLe, cGt, cGe, cEq_int, cNe_int, dIdx, dBi, bLen, bAbs, bInt, bSum, bMin, bMax, bAny, bAll, bSorted, bList, bTuple, isiD, noneB, fewD, dSl, Option.bind_some, Option.map_some, Option.bind_none, Option.map_none, isKey, keyD, zipD, intsD_map, boolsD_map, boolsD_mapf, intsD_mapf, Option.isSome_some, Nat.reduceLeDiff, Nat.zero_le, List.foldl_nil, List.length_cons, List.length_nil, List.length_map, List.map_cons, List.map_nil, List.cons_append, List.nil_append, List.replicate, List.getElem?_cons_zero, List.getElem?_cons_succ, List.set_cons_zero, List.set_cons_succ, ↓reduceIte, Bool.not_true, Bool.not_false, and_self, and_true, true_and, Bool.false_eq_true, reduceCtorEq, decide_true, decide_false, Nat.reduceAdd, Nat.reduceLT, Nat.reduceSub, Nat.reduceEqDiff, ne_eq, not_true_eq_false, not_false_eq_true, Option.some.injEq, exists_eq_left, Int.reduceNeg, beq_self_eq_true, Nat.zero_add, Nat.add_zero]; rfl, .inl (by simp only [e_non, e_bl, e_int, e_str, e_var, e_glob, e_bin, e_neg, e_cmp, e_isN, e_notN, e_chain, e_and_, e_or_, e_not_, e_ite, e_tup, e_lst, e_idx, e_sl, e_rev, e_sset, e_rng, e_call, e_callv, e_blt, e_isi, e_dis, e_dget, z_frz, z_app, z_ext, z_drop, z_set, z_setT, z_par, z_aug, z_put, z_augPut, z_ite, z_ret, z_retN, z_pass, z_brk, z_cont, z_never, z_nil, z_cons, evAnd, evOr, evF, evV, evKV, evI, evC, evP, seqF, setS, varOf, parS, augS, augI, appS, extS, putS, frzL, frzR, bindT, bindL, wipeR, kz, bz, oneI, dBin, dCmp, cLt, cLe, cGt, cGe, cEq_int, cNe_int, dIdx, dBi, bLen, bAbs, bInt, bSum, bMin, bMax, bAny, bAll, bSorted, bList, bTuple, isiD, noneB, fewD, dSl, Option.bind_some, Option.map_some, Option.bind_none, Option.map_none, isKey, keyD, zipD, intsD_map, boolsD_map, boolsD_mapf, intsD_mapf, Option.isSome_some, Nat.reduceLeDiff, Nat.zero_le, List.foldl_nil, List.length_cons, List.length_nil, List.length_map, List.map_cons, List.map_nil, List.cons_append, List.nil_append, List.replicate, List.getElem?_cons_zero, List.getElem?_cons_succ, List.set_cons_zero, List.set_cons_succ, ↓reduceIte, Bool.not_true, Bool.not_false, and_self, and_true, true_and, Bool.false_eq_true, reduceCtorEq, decide_true, decide_false, Nat.reduceAdd, Nat.reduceLT, Nat.reduceSub, Nat.reduceEqDiff, ne_eq, not_true_eq_false, not_false_eq_true, Option.some.injEq, exists_eq_left, Int.reduceNeg, beq_self_eq_true, Nat.zero_add, Nat.add_zero, e0, realD_int, h3]; rfl), _, _, _, _, _, _, _, rfl, ?_, hf, fun x hx => hq x (List.mem_cons_of_mem _ hx)⟩
    have h2 := addQ_len L w q (pl p) la'
    have h3 := pl_len p
    dsimp only
    omega
theorem e_fl1 (k : Nat) (A : PyData) (p : Int) (ws : List Int) (hw : ∀ w ∈ ws, -400000 ≤ w ∧ w ≤ 400000) (hl : ws.length ≤ 8) :
    ∃ a b c d e f g h, evS (glI inf) (C (k + 1)) 100000 (.for_ (.nm 4) (.over (.var 0)) (.cons (.set 5 (.dis .nil)) (.cons fl2 (.cons (.set 3 (.var 5)) .nil)))) [some (false, tpI ws), some (false, .int p), some (false, A), some (false, dcr [(0, (0, []))]), none, none, none, none, none, none, none, none] =
      some (.nx [some (false, tpI ws), some (false, .int p), some (false, A), some (false, dcr (fewL ws p)), a, b, c, d, e, f, g, h]) := by
  have z := z_for (gl := glI inf) (c := C (k + 1)) (n := 100000) (ρ := [some (false, tpI ws), some (false, .int p), some (false, A), some (false, dcr [(0, (0, []))]), none, none, none, none, none, none, none, none]) (t := .nm 4) (it := .over (.var 0))
    (b := (.cons (.set 5 (.dis .nil)) (.cons fl2 (.cons (.set 3 (.var 5)) .nil)))) (l := ws) .int
    (fun rest ρ => ∃ L a b c d e f g h vs, ρ = [some (false, tpI ws), some (false, .int p), some (false, A), some (false, dcr L), a, b, c, d, e, f, g, h] ∧ L.length * 3 ^ rest.length ≤ 6561 ∧ rest.foldl (stepQ p) L = fewL ws p ∧ InvQ vs p L ∧ vs.length + rest.length ≤ 8 ∧ ∀ q ∈ rest, -400000 ≤ q ∧ q ≤ 400000)
    (by simp only [e_non, e_bl, e_int, e_str, e_var, e_glob, e_bin, e_neg, e_cmp, e_isN, e_notN, e_chain, e_and_, e_or_, e_not_, e_ite, e_tup, e_lst, e_idx, e_sl, e_rev, e_sset, e_rng, e_call, e_callv, e_blt, e_isi, e_dis, e_dget, z_frz, z_app, z_ext, z_drop, z_set, z_setT, z_par, z_aug, z_put, z_augPut, z_ite, z_ret, z_retN, z_pass, z_brk, z_cont, z_never, z_nil, z_cons, evAnd, evOr, evF, evV, evKV, evI, evC, evP, seqF, setS, varOf, parS, augS, augI, appS, extS, putS, frzL, frzR, bindT, bindL, wipeR, kz, bz, oneI, dBin, dCmp, cLt, cLe, cGt, cGe, cEq_int, cNe_int, dIdx, dBi, bLen, bAbs, bInt, bSum, bMin, bMax, bAny, bAll, bSorted, bList, bTuple, isiD, noneB, fewD, dSl, Option.bind_some, Option.map_some, Option.bind_none, Option.map_none, isKey, keyD, zipD, intsD_map, boolsD_map, boolsD_mapf, intsD_mapf, Option.isSome_some, Nat.reduceLeDiff, Nat.zero_le, List.foldl_nil, List.length_cons, List.length_nil, List.length_map, List.map_cons, List.map_nil, List.cons_append, List.nil_append, List.replicate, List.getElem?_cons_zero, List.getElem?_cons_succ, List.set_cons_zero, List.set_cons_succ, ↓reduceIte, Bool.not_true, Bool.not_false, and_self, and_true, true_and, Bool.false_eq_true, reduceCtorEq, decide_true, decide_false, Nat.reduceAdd, Nat.reduceLT, Nat.reduceSub, Nat.reduceEqDiff, ne_eq, not_true_eq_false, not_false_eq_true, Option.some.injEq, exists_eq_left, Int.reduceNeg, beq_self_eq_true, Nat.zero_add, Nat.add_zero, tpI, beq_iff_eq]) ⟨_, none, none, none, none, none, none, none, none, [], rfl, ?_, rfl, invQ0 p, by simpa using hl, hw⟩ ?_
  · obtain ⟨ρ', h1, L, a, b, c, d, e, f, g, h, vs, h2, _, h3, _⟩ := z
    subst h2
    simp only [List.foldl_nil] at h3
    subst h3
    exact ⟨a, b, c, d, e, f, g, h, h1⟩
  · have := Nat.pow_le_pow_right (n := 3) (by omega) hl
    simpa using this
  · rintro q r ρ ⟨L, a, b, c, d, e, f, g, h, vs, rfl, hl, hf, hi, hv, hq⟩
    rw [List.length_cons, Nat.pow_succ] at hl
    rw [List.length_cons] at hv
    have hp : 1 ≤ 3 ^ r.length := Nat.one_le_pow _ _ (by omega)
    have hL : L.length * 3 ≤ 6561 := Nat.le_trans (Nat.mul_le_mul (Nat.le_refl _) (by omega)) hl
    obtain ⟨a2, b2, d2, e2, f2, g2, h2⟩ := e_fl2 k (tpI ws) A p q vs L c d e f g h (hq q (List.mem_cons_self ..)) (by omega) hi (by omega)
    refine ⟨_, [some (false, tpI ws), some (false, .int p), some (false, A), some (false, dcr (stepQ p L q)), some (false, .int q), some (false, dcr (stepQ p L q)), a2, b2, d2, e2, f2, g2], by simp only [e_non, e_bl, e_int, e_str, e_var, e_glob, e_bin, e_neg, e_cmp, e_isN, e_notN, e_chain, e_and_, e_or_, e_not_, e_ite, e_tup, e_lst, e_idx, e_sl, e_rev, e_sset, e_rng, e_call, e_callv, e_blt, e_isi, e_dis, e_dget, z_frz, z_app, z_ext, z_drop, z_set, z_setT, z_par, z_aug, z_put, z_augPut, z_ite, z_ret, z_retN, z_pass, z_brk, z_cont, z_never, z_nil, z_cons, evAnd, evOr, evF, evV, evKV, evI, evC, evP, seqF, setS, varOf, parS, augS, augI, appS, extS, putS, frzL, frzR, bindT, bindL, wipeR, kz, bz, oneI, dBin, dCmp, cLt, cLe, cGt, cGe, cEq_int, cNe_int, dIdx, dBi, bLen, bAbs, bInt, bSum, bMin, bMax, bAny, bAll, bSorted, bList, bTuple, isiD, noneB, fewD, dSl, Option.bind_some, Option.map_some, Option.bind_none, Option.map_none, isKey, keyD, zipD, intsD_map, boolsD_map, boolsD_mapf, intsD_mapf, Option.isSome_some, Nat.reduceLeDiff, Nat.zero_le, List.foldl_nil, List.length_cons, List.length_nil, List.length_map, List.map_cons, List.map_nil, List.cons_append, List.nil_append, List.replicate, List.getElem?_cons_zero, List.getElem?_cons_succ, List.set_cons_zero, List.set_cons_succ, ↓reduceIte, Bool.not_true, Bool.not_false, and_self, and_true, true_and, Bool.false_eq_true, reduceCtorEq, decide_true, decide_false, Nat.reduceAdd, Nat.reduceLT, Nat.reduceSub, Nat.reduceEqDiff, ne_eq, not_true_eq_false, not_false_eq_true, Option.some.injEq, exists_eq_left, Int.reduceNeg, beq_self_eq_true, Nat.zero_add, Nat.add_zero]; rfl, .inl ?_, stepQ p L q, _, _, _, _, _, _, _, _, vs ++ [q], rfl, ?_, hf, invQ_step hi, by rw [List.length_append]; simp; omega, fun x hx => hq x (List.mem_cons_of_mem _ hx)⟩
    · rw [show dcr [] = .dict [] from rfl] at h2
      simp only [e_non, e_bl, e_int, e_str, e_var, e_glob, e_bin, e_neg, e_cmp, e_isN, e_notN, e_chain, e_and_, e_or_, e_not_, e_ite, e_tup, e_lst, e_idx, e_sl, e_rev, e_sset, e_rng, e_call, e_callv, e_blt, e_isi, e_dis, e_dget, z_frz, z_app, z_ext, z_drop, z_set, z_setT, z_par, z_aug, z_put, z_augPut, z_ite, z_ret, z_retN, z_pass, z_brk, z_cont, z_never, z_nil, z_cons, evAnd, evOr, evF, evV, evKV, evI, evC, evP, seqF, setS, varOf, parS, augS, augI, appS, extS, putS, frzL, frzR, bindT, bindL, wipeR, kz, bz, oneI, dBin, dCmp, cLt, cLe, cGt, cGe, cEq_int, cNe_int, dIdx, dBi, bLen, bAbs, bInt, bSum, bMin, bMax, bAny, bAll, bSorted, bList, bTuple, isiD, noneB, fewD, dSl, Option.bind_some, Option.map_some, Option.bind_none, Option.map_none, isKey, keyD, zipD, intsD_map, boolsD_map, boolsD_mapf, intsD_mapf, Option.isSome_some, Nat.reduceLeDiff, Nat.zero_le, List.foldl_nil, List.length_cons, List.length_nil, List.length_map, List.map_cons, List.map_nil, List.cons_append, List.nil_append, List.replicate, List.getElem?_cons_zero, List.getElem?_cons_succ, List.set_cons_zero, List.set_cons_succ, ↓reduceIte, Bool.not_true, Bool.not_false, and_self, and_true, true_and, Bool.false_eq_true, reduceCtorEq, decide_true, decide_false, Nat.reduceAdd, Nat.reduceLT, Nat.reduceSub, Nat.reduceEqDiff, ne_eq, not_true_eq_false, not_false_eq_true, Option.some.injEq, exists_eq_left, Int.reduceNeg, beq_self_eq_true, Nat.zero_add, Nat.add_zero, h2]
    · have := stepQ_len p L q
      calc _ ≤ (3 * L.length) * 3 ^ r.length := Nat.mul_le_mul_right _ this
        _ = L.length * (3 ^ r.length * 3) := by rw [Nat.mul_comm 3, Nat.mul_assoc, Nat.mul_comm 3]
        _ ≤ _ := hl
theorem k_fewest_used : (tabOf tab).lookup ("fewest_used" : Str) = some t_fewest_used.df := by rfl
def fewW (ws : List Int) (p a : Int) : List Int := ((getI (fewL ws p) a).getD (0, [])).2
theorem c_fewest_used (k : Nat) (ws : List Int) (p a : Int) (h : Wk8 ws) (hp : p = 1 ∨ p = 2) (h1 : 1 ≤ a) (h2 : a ≤ 100000) (hr : 0 < cnt ws p a) : C (k + 3) "fewest_used" [tpI ws, .int p, .int a] = some (tpI (fewW ws p a)) := by
  rw [cS k_fewest_used]
  obtain ⟨⟨m, way⟩, hb⟩ := few_some hr
  obtain ⟨a1, b1, d1, e1, f1, g1, h1', i1, hl⟩ := e_fl1 (k + 1) (.int a) p ws h.b h.l8
  have c1 := c__check_weights k ws h.toWok
  have c2 := c__check_pans k p hp
  have c3 := c__check_amount k a h1 h2
  have hbody : t_fewest_used.body = (.cons (.drop (.call "_check_weights" (.cons (.var 0) .nil))) (.cons (.drop (.call "_check_pans" (.cons (.var 1) .nil))) (.cons (.drop (.call "_check_amount" (.cons (.var 2) .nil)))
    (.cons (.set 3 (.dis (.cons (.int 0) (.cons (.tup (.cons (.int 0) (.cons (.tup .nil) .nil))) .nil)))) (.cons (.frz [3]) (.cons (.for_ (.nm 4) (.over (.var 0)) (.cons (.set 5 (.dis .nil)) (.cons fl2 (.cons (.set 3 (.var 5)) .nil))))
    (.cons (.ret (.ite (.cmp .isin (.var 2) (.var 3)) (.idx (.idx (.var 3) (.var 2)) (.int 1)) .non)) .nil))))))) := by rfl
  have e0 : [((PyData.int 0), (PyData.tuple [.int 0, .tuple []]))].foldl (fun acc p => putD acc p.1 p.2) [] = kvI rowD [(0, (0, []))] := by rfl
  have e2 : lookD (kvI rowD (fewL ws p)) (.int a) = some (.tuple [.int m, tpI way]) := by rw [lookD_int, hb]; rfl
  have e3 : L2.atI [PyData.int m, tpI way] 1 = some (tpI way) := atI_nat _ 1 (by simp)
  simp only [run1, Tx.df, hbody]
  simp only [e_non, e_bl, e_int, e_str, e_var, e_glob, e_bin, e_neg, e_cmp, e_isN, e_notN, e_chain, e_and_, e_or_, e_not_, e_ite, e_tup, e_lst, e_idx, e_sl, e_rev, e_sset, e_rng, e_call, e_callv, e_blt, e_isi, e_dis, e_dget, z_frz, z_app, z_ext, z_drop, z_set, z_setT, z_par, z_aug, z_put, z_augPut, z_ite, z_ret, z_retN, z_pass, z_brk, z_cont, z_never, z_nil, z_cons, evAnd, evOr, evF, evV, evKV, evI, evC, evP, seqF, setS, varOf, parS, augS, augI, appS, extS, putS, frzL, frzR, bindT, bindL, wipeR, kz, bz, oneI, dBin, dCmp, cLt, cLe, cGt, cGe, cEq_int, cNe_int, dIdx, dBi, bLen, bAbs, bInt, bSum, bMin, bMax, bAny, bAll, bSorted, bList, bTuple, isiD, noneB, fewD, dSl, Option.bind_some, Option.map_some, Option.bind_none, Option.map_none, isKey, keyD, zipD, intsD_map, boolsD_map, boolsD_mapf, intsD_mapf, Option.isSome_some, Nat.reduceLeDiff, Nat.zero_le, List.foldl_nil, List.length_cons, List.length_nil, List.length_map, List.map_cons, List.map_nil, List.cons_append, List.nil_append, List.replicate, List.getElem?_cons_zero, List.getElem?_cons_succ, List.set_cons_zero, List.set_cons_succ, ↓reduceIte, Bool.not_true, Bool.not_false, and_self, and_true, true_and, Bool.false_eq_true, reduceCtorEq, decide_true, decide_false, Nat.reduceAdd, Nat.reduceLT, Nat.reduceSub, Nat.reduceEqDiff, ne_eq, not_true_eq_false, not_false_eq_true, Option.some.injEq, exists_eq_left, Int.reduceNeg, beq_self_eq_true, Nat.zero_add, Nat.add_zero, t_fewest_used, c1, c2, c3, e0, hl, cIn, realD_int, e2, e3]
  unfold fewW
  rw [hb]
  rfl
/-! _weighed, way_fault -/
theorem k__weighed : (tabOf tab).lookup ("_weighed" : Str) = some t__weighed.df := by rfl
theorem sum_dot : ∀ a b : List Int, ((a.zip b).map fun p => p.1 * p.2).sum = dot a b
  | [], _ => by simp [dot]
  | _ :: _, [] => by simp [dot]
  | x :: a, y :: b => by simp [dot, sum_dot a b]
theorem c__weighed (k : Nat) (ws way : List Int) (hw : ∀ w ∈ ws, -400000 ≤ w ∧ w ≤ 400000) (hq : ∀ q ∈ way, -1 ≤ q ∧ q ≤ 1) (hl : ws.length ≤ 1000) : C (k + 1) "_weighed" [tpI ws, tpI way] = some (.int (dot way ws)) := by
  rw [cS k__weighed]
  have hc := e_comp0 (gl := glI inf) (c := C k) (ρ := [some (false, tpI ws), some (false, tpI way), none, none]) (elt := .bin .mul (.var 2) (.var 3)) (tg := .tp 2 (.cons (.nm 2) (.cons (.nm 3) .nil))) (it := .zip2 (.var 1) (.var 0)) (own := [("place", 2), ("weight", 3)]) (b := false) (l := way.zip ws) pr (fun p => .int (p.1 * p.2))
    (by simp only [e_non, e_bl, e_int, e_str, e_var, e_glob, e_bin, e_neg, e_cmp, e_isN, e_notN, e_chain, e_and_, e_or_, e_not_, e_ite, e_tup, e_lst, e_idx, e_sl, e_rev, e_sset, e_rng, e_call, e_callv, e_blt, e_isi, e_dis, e_dget, z_frz, z_app, z_ext, z_drop, z_set, z_setT, z_par, z_aug, z_put, z_augPut, z_ite, z_ret, z_retN, z_pass, z_brk, z_cont, z_never, z_nil, z_cons, evAnd, evOr, evF, evV, evKV, evI, evC, evP, seqF, setS, varOf, parS, augS, augI, appS, extS, putS, frzL, frzR, bindT, bindL, wipeR, kz, bz, oneI, dBin, dCmp, cLt, cLe, cGt, cGe, cEq_int, cNe_int, dIdx, dBi, bLen, bAbs, bInt, bSum, bMin, bMax, bAny, bAll, bSorted, bList, bTuple, isiD, noneB, fewD, dSl, Option.bind_some, Option.map_some, Option.bind_none, Option.map_none, isKey, keyD, zipD, intsD_map, boolsD_map, boolsD_mapf, intsD_mapf, Option.isSome_some, Nat.reduceLeDiff, Nat.zero_le, List.foldl_nil, List.length_cons, List.length_nil, List.length_map, List.map_cons, List.map_nil, List.cons_append, List.nil_append, List.replicate, List.getElem?_cons_zero, List.getElem?_cons_succ, List.set_cons_zero, List.set_cons_succ, ↓reduceIte, Bool.not_true, Bool.not_false, and_self, and_true, true_and, Bool.false_eq_true, reduceCtorEq, decide_true, decide_false, Nat.reduceAdd, Nat.reduceLT, Nat.reduceSub, Nat.reduceEqDiff, ne_eq, not_true_eq_false, not_false_eq_true, Option.some.injEq, exists_eq_left, Int.reduceNeg, beq_self_eq_true, Nat.zero_add, Nat.add_zero, tpI, zip_int]) (by rw [List.length_zip]; omega) (fun x hx => by
      obtain ⟨x1, x2⟩ := x
      have hz := List.of_mem_zip hx
      have b1 := hq x1 hz.1
      have b2 := hw x2 hz.2
      have mo := mul_ok (i := x1) (j := x2) (by omega) (by omega) b2.1 b2.2
      simp [e_non, e_bl, e_int, e_str, e_var, e_glob, e_bin, e_neg, e_cmp, e_isN, e_notN, e_chain, e_and_, e_or_, e_not_, e_ite, e_tup, e_lst, e_idx, e_sl, e_rev, e_sset, e_rng, e_call, e_callv, e_blt, e_isi, e_dis, e_dget, z_frz, z_app, z_ext, z_drop, z_set, z_setT, z_par, z_aug, z_put, z_augPut, z_ite, z_ret, z_retN, z_pass, z_brk, z_cont, z_never, z_nil, z_cons, evAnd, evOr, evF, evV, evKV, evI, evC, evP, seqF, setS, varOf, parS, augS, augI, appS, extS, putS, frzL, frzR, bindT, bindL, wipeR, kz, bz, oneI, dBin, dCmp, cLt, cLe, cGt, cGe, cEq_int, cNe_int, dIdx, dBi, bLen, bAbs, bInt, bSum, bMin, bMax, bAny, bAll, bSorted, bList, bTuple, isiD, noneB, fewD, dSl, Option.bind_some, Option.map_some, Option.bind_none, Option.map_none, isKey, keyD, zipD, intsD_map, boolsD_map, pr, mo])
  simp only [run1, t__weighed, Tx.df, b__weighed, e_non, e_bl, e_int, e_str, e_var, e_glob, e_bin, e_neg, e_cmp, e_isN, e_notN, e_chain, e_and_, e_or_, e_not_, e_ite, e_tup, e_lst, e_idx, e_sl, e_rev, e_sset, e_rng, e_call, e_callv, e_blt, e_isi, e_dis, e_dget, z_frz, z_app, z_ext, z_drop, z_set, z_setT, z_par, z_aug, z_put, z_augPut, z_ite, z_ret, z_retN, z_pass, z_brk, z_cont, z_never, z_nil, z_cons, evAnd, evOr, evF, evV, evKV, evI, evC, evP, seqF, setS, varOf, parS, augS, augI, appS, extS, putS, frzL, frzR, bindT, bindL, wipeR, kz, bz, oneI, dBin, dCmp, cLt, cLe, cGt, cGe, cEq_int, cNe_int, dIdx, dBi, bLen, bAbs, bInt, bSum, bMin, bMax, bAny, bAll, bSorted, bList, bTuple, isiD, noneB, fewD, dSl, Option.bind_some, Option.map_some, Option.bind_none, Option.map_none, isKey, keyD, zipD, intsD_map, boolsD_map, boolsD_mapf, intsD_mapf, Option.isSome_some, Nat.reduceLeDiff, Nat.zero_le, List.foldl_nil, List.length_cons, List.length_nil, List.length_map, List.map_cons, List.map_nil, List.cons_append, List.nil_append, List.replicate, List.getElem?_cons_zero, List.getElem?_cons_succ, List.set_cons_zero, List.set_cons_succ, ↓reduceIte, Bool.not_true, Bool.not_false, and_self, and_true, true_and, Bool.false_eq_true, reduceCtorEq, decide_true, decide_false, Nat.reduceAdd, Nat.reduceLT, Nat.reduceSub, Nat.reduceEqDiff, ne_eq, not_true_eq_false, not_false_eq_true, Option.some.injEq, exists_eq_left, Int.reduceNeg, beq_self_eq_true, Nat.zero_add, Nat.add_zero, hc, sum_dot]
theorem k_way_fault : (tabOf tab).lookup ("way_fault" : Str) = some t_way_fault.df := by rfl
theorem pl_head (p : Int) (hp : p = 1 ∨ p = 2) : ∃ a r, pl p = a :: r ∧ ∀ q ∈ pl p, a ≤ q ∧ q ≤ 1 := by
  rcases hp with hp | hp <;> subst hp
  · exact ⟨0, [1], rfl, fun q hq => by simp [pl] at hq; omega⟩
  · exact ⟨-1, [0, 1], rfl, fun q hq => by simp [pl] at hq; omega⟩
theorem c_way_fault (k : Nat) (ws way : List Int) (p a : Int) (h : Wk8 ws) (hp : p = 1 ∨ p = 2) (h1 : 1 ≤ a) (h2 : a ≤ 100000) (hl : way.length = ws.length) (hq : ∀ q ∈ way, q ∈ pl p) (hd : dot way ws = a) : C (k + 3) "way_fault" [tpI ws, .int p, .int a, tpI way] = some .none := by
  rw [cS k_way_fault]
  have l8 := h.l8
  have c1 := c__check_weights k ws h.toWok
  have c2 := c__check_pans k p hp
  have c3 := c__check_amount k a h1 h2
  have c4 := c__weighed (k + 1) ws way h.b (fun q hq' => pl_rng (hq q hq')) (by omega)
  have cp := c__places (k + 1) p
  obtain ⟨b0, br, hpl, hb0⟩ := pl_head p hp
  have hc := e_comp0 (gl := glI inf) (c := C (k + 2)) (ρ := [some (false, tpI ws), some (false, .int p), some (false, .int a), some (false, tpI way), none, none]) (elt := .call "is_whole" (.cons (.var 5) (.cons (.idx (.call "_places" (.cons (.var 1) .nil)) (.int 0)) (.cons (.int 1) .nil)))) (tg := .nm 5) (it := .over (.var 3)) (own := [("one", 5)]) (b := false) (l := way) .int (fun q => .bool (decide (b0 ≤ q ∧ q ≤ 1)))
    (by simp only [e_non, e_bl, e_int, e_str, e_var, e_glob, e_bin, e_neg, e_cmp, e_isN, e_notN, e_chain, e_and_, e_or_, e_not_, e_ite, e_tup, e_lst, e_idx, e_sl, e_rev, e_sset, e_rng, e_call, e_callv, e_blt, e_isi, e_dis, e_dget, z_frz, z_app, z_ext, z_drop, z_set, z_setT, z_par, z_aug, z_put, z_augPut, z_ite, z_ret, z_retN, z_pass, z_brk, z_cont, z_never, z_nil, z_cons, evAnd, evOr, evF, evV, evKV, evI, evC, evP, seqF, setS, varOf, parS, augS, augI, appS, extS, putS, frzL, frzR, bindT, bindL, wipeR, kz, bz, oneI, dBin, dCmp, cLt, cLe, cGt, cGe, cEq_int, cNe_int, dIdx, dBi, bLen, bAbs, bInt, bSum, bMin, bMax, bAny, bAll, bSorted, bList, bTuple, isiD, noneB, fewD, dSl, Option.bind_some, Option.map_some, Option.bind_none, Option.map_none, isKey, keyD, zipD, intsD_map, boolsD_map, boolsD_mapf, intsD_mapf, Option.isSome_some, Nat.reduceLeDiff, Nat.zero_le, List.foldl_nil, List.length_cons, List.length_nil, List.length_map, List.map_cons, List.map_nil, List.cons_append, List.nil_append, List.replicate, List.getElem?_cons_zero, List.getElem?_cons_succ, List.set_cons_zero, List.set_cons_succ, ↓reduceIte, Bool.not_true, Bool.not_false, and_self, and_true, true_and, Bool.false_eq_true, reduceCtorEq, decide_true, decide_false, Nat.reduceAdd, Nat.reduceLT, Nat.reduceSub, Nat.reduceEqDiff, ne_eq, not_true_eq_false, not_false_eq_true, Option.some.injEq, exists_eq_left, Int.reduceNeg, beq_self_eq_true, Nat.zero_add, Nat.add_zero, tpI, beq_iff_eq]) (by omega) (fun x hx => ⟨[some (false, tpI ws), some (false, .int p), some (false, .int a), some (false, tpI way), none, some (false, .int x)], by simp only [e_non, e_bl, e_int, e_str, e_var, e_glob, e_bin, e_neg, e_cmp, e_isN, e_notN, e_chain, e_and_, e_or_, e_not_, e_ite, e_tup, e_lst, e_idx, e_sl, e_rev, e_sset, e_rng, e_call, e_callv, e_blt, e_isi, e_dis, e_dget, z_frz, z_app, z_ext, z_drop, z_set, z_setT, z_par, z_aug, z_put, z_augPut, z_ite, z_ret, z_retN, z_pass, z_brk, z_cont, z_never, z_nil, z_cons, evAnd, evOr, evF, evV, evKV, evI, evC, evP, seqF, setS, varOf, parS, augS, augI, appS, extS, putS, frzL, frzR, bindT, bindL, wipeR, kz, bz, oneI, dBin, dCmp, cLt, cLe, cGt, cGe, cEq_int, cNe_int, dIdx, dBi, bLen, bAbs, bInt, bSum, bMin, bMax, bAny, bAll, bSorted, bList, bTuple, isiD, noneB, fewD, dSl, Option.bind_some, Option.map_some, Option.bind_none, Option.map_none, isKey, keyD, zipD, intsD_map, boolsD_map, boolsD_mapf, intsD_mapf, Option.isSome_some, Nat.reduceLeDiff, Nat.zero_le, List.foldl_nil, List.length_cons, List.length_nil, List.length_map, List.map_cons, List.map_nil, List.cons_append, List.nil_append, List.replicate, List.getElem?_cons_zero, List.getElem?_cons_succ, List.set_cons_zero, List.set_cons_succ, ↓reduceIte, Bool.not_true, Bool.not_false, and_self, and_true, true_and, Bool.false_eq_true, reduceCtorEq, decide_true, decide_false, Nat.reduceAdd, Nat.reduceLT, Nat.reduceSub, Nat.reduceEqDiff, ne_eq, not_true_eq_false, not_false_eq_true, Option.some.injEq, exists_eq_left, Int.reduceNeg, beq_self_eq_true, Nat.zero_add, Nat.add_zero], by
      rw [hpl] at cp
      simp only [tpI, List.map_cons] at cp
      simp only [e_non, e_bl, e_int, e_str, e_var, e_glob, e_bin, e_neg, e_cmp, e_isN, e_notN, e_chain, e_and_, e_or_, e_not_, e_ite, e_tup, e_lst, e_idx, e_sl, e_rev, e_sset, e_rng, e_call, e_callv, e_blt, e_isi, e_dis, e_dget, z_frz, z_app, z_ext, z_drop, z_set, z_setT, z_par, z_aug, z_put, z_augPut, z_ite, z_ret, z_retN, z_pass, z_brk, z_cont, z_never, z_nil, z_cons, evAnd, evOr, evF, evV, evKV, evI, evC, evP, seqF, setS, varOf, parS, augS, augI, appS, extS, putS, frzL, frzR, bindT, bindL, wipeR, kz, bz, oneI, dBin, dCmp, cLt, cLe, cGt, cGe, cEq_int, cNe_int, dIdx, dBi, bLen, bAbs, bInt, bSum, bMin, bMax, bAny, bAll, bSorted, bList, bTuple, isiD, noneB, fewD, dSl, Option.bind_some, Option.map_some, Option.bind_none, Option.map_none, isKey, keyD, zipD, intsD_map, boolsD_map, boolsD_mapf, intsD_mapf, Option.isSome_some, Nat.reduceLeDiff, Nat.zero_le, List.foldl_nil, List.length_cons, List.length_nil, List.length_map, List.map_cons, List.map_nil, List.cons_append, List.nil_append, List.replicate, List.getElem?_cons_zero, List.getElem?_cons_succ, List.set_cons_zero, List.set_cons_succ, ↓reduceIte, Bool.not_true, Bool.not_false, and_self, and_true, true_and, Bool.false_eq_true, reduceCtorEq, decide_true, decide_false, Nat.reduceAdd, Nat.reduceLT, Nat.reduceSub, Nat.reduceEqDiff, ne_eq, not_true_eq_false, not_false_eq_true, Option.some.injEq, exists_eq_left, Int.reduceNeg, beq_self_eq_true, Nat.zero_add, Nat.add_zero, cp, atI_zero, c_is_whole]⟩)
  have ha : ((way.map fun q => decide (b0 ≤ q ∧ q ≤ 1)).all id) = true := by
    rw [List.all_map, List.all_eq_true]
    intro q hq'
    simpa using hb0 q (hq q hq')
  have hdd : decide (a - dot way ws ≠ 0) = false := by rw [hd]; simp
  have hll : decide ((way.length : Int) ≠ (ws.length : Int)) = false := by rw [hl]; simp
  simp only [ne_eq] at hdd hll
  simp only [tpI] at c1 c4 hc ⊢
  simp only [run1, t_way_fault, Tx.df, b_way_fault, e_non, e_bl, e_int, e_str, e_var, e_glob, e_bin, e_neg, e_cmp, e_isN, e_notN, e_chain, e_and_, e_or_, e_not_, e_ite, e_tup, e_lst, e_idx, e_sl, e_rev, e_sset, e_rng, e_call, e_callv, e_blt, e_isi, e_dis, e_dget, z_frz, z_app, z_ext, z_drop, z_set, z_setT, z_par, z_aug, z_put, z_augPut, z_ite, z_ret, z_retN, z_pass, z_brk, z_cont, z_never, z_nil, z_cons, evAnd, evOr, evF, evV, evKV, evI, evC, evP, seqF, setS, varOf, parS, augS, augI, appS, extS, putS, frzL, frzR, bindT, bindL, wipeR, kz, bz, oneI, dBin, dCmp, cLt, cLe, cGt, cGe, cEq_int, cNe_int, dIdx, dBi, bLen, bAbs, bInt, bSum, bMin, bMax, bAny, bAll, bSorted, bList, bTuple, isiD, noneB, fewD, dSl, Option.bind_some, Option.map_some, Option.bind_none, Option.map_none, isKey, keyD, zipD, intsD_map, boolsD_map, boolsD_mapf, intsD_mapf, Option.isSome_some, Nat.reduceLeDiff, Nat.zero_le, List.foldl_nil, List.length_cons, List.length_nil, List.length_map, List.map_cons, List.map_nil, List.cons_append, List.nil_append, List.replicate, List.getElem?_cons_zero, List.getElem?_cons_succ, List.set_cons_zero, List.set_cons_succ, ↓reduceIte, Bool.not_true, Bool.not_false, and_self, and_true, true_and, Bool.false_eq_true, reduceCtorEq, decide_true, decide_false, Nat.reduceAdd, Nat.reduceLT, Nat.reduceSub, Nat.reduceEqDiff, ne_eq, not_true_eq_false, not_false_eq_true, Option.some.injEq, exists_eq_left, Int.reduceNeg, beq_self_eq_true, Nat.zero_add, Nat.add_zero, c1, c2, c3, c4, hc, ha, hdd, hll]
/-! _law_ways: the same counts -/
theorem k__law_ways : (tabOf tab).lookup ("_law_ways" : Str) = some t__law_ways.df := by rfl
end Bw.K3

namespace Bw.K3
open PySem
def wb3 : Sm := (.cons (.put 4 (.bin .add (.var 5) (.var 6)) (.bin .add (.dget (.var 4) (.bin .add (.var 5) (.var 6)) (.int 0)) (.idx (.var 2) (.var 5)))) .nil)
def wl3 : Sm := (.for_ (.nm 6) (.over (.ite (.cmp .eq (.var 1) (.int 1)) (.tup (.cons (.int 0) (.cons (.var 3) .nil))) (.tup (.cons (.bin .sub (.int 0) (.var 3)) (.cons (.int 0) (.cons (.var 3) .nil)))))) wb3)
theorem e_wl3 (k : Nat) (W : PyData) (p w o : Int) (L la : List (Int × Int)) (a : Option (Bool × PyData)) (ho : (getI L o).isSome = true) (hla : la.length ≤ 90000) :
    ∃ a', evS (glI inf) (C k) 100000 wl3 [some (false, W), some (false, .int p), some (false, dct L), some (false, .int w), some (true, dct la), some (false, .int o), a] =
      some (.nx [some (false, W), some (false, .int p), some (false, dct L), some (false, .int w), some (true, dct ((pl p).foldl (addP L w o) la)), some (false, .int o), a']) := by
  obtain ⟨v, hv⟩ := Option.isSome_iff_exists.mp ho
  have z := z_for (gl := glI inf) (c := C k) (n := 100000) (ρ := [some (false, W), some (false, .int p), some (false, dct L), some (false, .int w), some (true, dct la), some (false, .int o), a]) (t := .nm 6) (it := .over (.ite (.cmp .eq (.var 1) (.int 1)) (.tup (.cons (.int 0) (.cons (.var 3) .nil))) (.tup (.cons (.bin .sub (.int 0) (.var 3)) (.cons (.int 0) (.cons (.var 3) .nil))))))
    (b := wb3) (l := pl p) (fun q => .int (q * w))
    (fun rest ρ => ∃ la' a', ρ = [some (false, W), some (false, .int p), some (false, dct L), some (false, .int w), some (true, dct la'), some (false, .int o), a'] ∧ la'.length + rest.length ≤ 90003 ∧ rest.foldl (addP L w o) la' = (pl p).foldl (addP L w o) la)
    (by
      unfold pl
      by_cases hp : p = 1
      · simp only [e_non, e_bl, e_int, e_str, e_var, e_glob, e_bin, e_neg, e_cmp, e_isN, e_notN, e_chain, e_and_, e_or_, e_not_, e_ite, e_tup, e_lst, e_idx, e_sl, e_rev, e_sset, e_rng, e_call, e_callv, e_blt, e_isi, e_dis, e_dget, z_frz, z_app, z_ext, z_drop, z_set, z_setT, z_par, z_aug, z_put, z_augPut, z_ite, z_ret, z_retN, z_pass, z_brk, z_cont, z_never, z_nil, z_cons, evAnd, evOr, evF, evV, evKV, evI, evC, evP, seqF, setS, varOf, parS, augS, augI, appS, extS, putS, frzL, frzR, bindT, bindL, wipeR, kz, bz, oneI, dBin, dCmp, cLt, cLe, cGt, cGe, cEq_int, cNe_int, dIdx, dBi, bLen, bAbs, bInt, bSum, bMin, bMax, bAny, bAll, bSorted, bList, bTuple, isiD, noneB, fewD, dSl, Option.bind_some, Option.map_some, Option.bind_none, Option.map_none, isKey, keyD, zipD, intsD_map, boolsD_map, boolsD_mapf, intsD_mapf, Option.isSome_some, Nat.reduceLeDiff, Nat.zero_le, List.foldl_nil, List.length_cons, List.length_nil, List.length_map, List.map_cons, List.map_nil, List.cons_append, List.nil_append, List.replicate, List.getElem?_cons_zero, List.getElem?_cons_succ, List.set_cons_zero, List.set_cons_succ, ↓reduceIte, Bool.not_true, Bool.not_false, and_self, and_true, true_and, Bool.false_eq_true, reduceCtorEq, decide_true, decide_false, Nat.reduceAdd, Nat.reduceLT, Nat.reduceSub, Nat.reduceEqDiff, ne_eq, not_true_eq_false, not_false_eq_true, Option.some.injEq, exists_eq_left, Int.reduceNeg, beq_self_eq_true, Nat.zero_add, Nat.add_zero, hp, Int.zero_mul, Int.one_mul]
      · have e : (0 : Int) - w = -1 * w := by omega
        simp only [e_non, e_bl, e_int, e_str, e_var, e_glob, e_bin, e_neg, e_cmp, e_isN, e_notN, e_chain, e_and_, e_or_, e_not_, e_ite, e_tup, e_lst, e_idx, e_sl, e_rev, e_sset, e_rng, e_call, e_callv, e_blt, e_isi, e_dis, e_dget, z_frz, z_app, z_ext, z_drop, z_set, z_setT, z_par, z_aug, z_put, z_augPut, z_ite, z_ret, z_retN, z_pass, z_brk, z_cont, z_never, z_nil, z_cons, evAnd, evOr, evF, evV, evKV, evI, evC, evP, seqF, setS, varOf, parS, augS, augI, appS, extS, putS, frzL, frzR, bindT, bindL, wipeR, kz, bz, oneI, dBin, dCmp, cLt, cLe, cGt, cGe, cEq_int, cNe_int, dIdx, dBi, bLen, bAbs, bInt, bSum, bMin, bMax, bAny, bAll, bSorted, bList, bTuple, isiD, noneB, fewD, dSl, Option.bind_some, Option.map_some, Option.bind_none, Option.map_none, isKey, keyD, zipD, intsD_map, boolsD_map, boolsD_mapf, intsD_mapf, Option.isSome_some, Nat.reduceLeDiff, Nat.zero_le, List.foldl_nil, List.length_cons, List.length_nil, List.length_map, List.map_cons, List.map_nil, List.cons_append, List.nil_append, List.replicate, List.getElem?_cons_zero, List.getElem?_cons_succ, List.set_cons_zero, List.set_cons_succ, ↓reduceIte, Bool.not_true, Bool.not_false, and_self, and_true, true_and, Bool.false_eq_true, reduceCtorEq, decide_true, decide_false, Nat.reduceAdd, Nat.reduceLT, Nat.reduceSub, Nat.reduceEqDiff, ne_eq, not_true_eq_false, not_false_eq_true, Option.some.injEq, exists_eq_left, Int.reduceNeg, beq_self_eq_true, Nat.zero_add, Nat.add_zero, hp, Int.zero_mul, Int.one_mul, e]) ⟨la, a, rfl, by have := pl_len p; omega, rfl⟩ ?_
  · obtain ⟨ρ', h1, la', a', h2, _, h3⟩ := z
    subst h2
    simp only [List.foldl_nil] at h3
    subst h3
    exact ⟨a', h1⟩
  · rintro q r ρ ⟨la', a', rfl, hl, hf⟩
    have e0 : lookD (kvI .int L) (.int o) = some (.int v) := by rw [lookD_int, hv]; rfl
    rw [List.length_cons] at hl
    have hl2 : la'.length < 100000 := by omega
    refine ⟨_, [some (false, W), some (false, .int p), some (false, dct L), some (false, .int w), some (true, dct (addP L w o la' q)), some (false, .int o), some (false, .int (q * w))], by simp only [e_non, e_bl, e_int, e_str, e_var, e_glob, e_bin, e_neg, e_cmp, e_isN, e_notN, e_chain, e_and_, e_or_, e_not_, e_ite, e_tup, e_lst, e_idx, e_sl, e_rev, e_sset, e_rng, e_call, e_callv, e_blt, e_isi, e_dis, e_dget, z_frz, z_app, z_ext, z_drop, z_set, z_setT, z_par, z_aug, z_put, z_augPut, z_ite, z_ret, z_retN, z_pass, z_brk, z_cont, z_never, z_nil, z_cons, evAnd, evOr, evF, evV, evKV, evI, evC, evP, seqF, setS, varOf, parS, augS, augI, appS, extS, putS, frzL, frzR, bindT, bindL, wipeR, kz, bz, oneI, dBin, dCmp, cLt, cLe, cGt, cGe, cEq_int, cNe_int, dIdx, dBi, bLen, bAbs, bInt, bSum, bMin, bMax, bAny, bAll, bSorted, bList, bTuple, isiD, noneB, fewD, dSl, Option.bind_some, Option.map_some, Option.bind_none, Option.map_none, isKey, keyD, zipD, intsD_map, boolsD_map, boolsD_mapf, intsD_mapf, Option.isSome_some, Nat.reduceLeDiff, Nat.zero_le, List.foldl_nil, List.length_cons, List.length_nil, List.length_map, List.map_cons, List.map_nil, List.cons_append, List.nil_append, List.replicate, List.getElem?_cons_zero, List.getElem?_cons_succ, List.set_cons_zero, List.set_cons_succ, ↓reduceIte, Bool.not_true, Bool.not_false, and_self, and_true, true_and, Bool.false_eq_true, reduceCtorEq, decide_true, decide_false, Nat.reduceAdd, Nat.reduceLT, Nat.reduceSub, Nat.reduceEqDiff, ne_eq, not_true_eq_false, not_false_eq_true, Option.some.injEq, exists_eq_left, Int.reduceNeg, beq_self_eq_true, Nat.zero_add, Nat.add_zero]; rfl, .inl ?_, addP L w o la' q, _, rfl, ?_, hf⟩
    · have e1 : (lookD (kvI .int la') (.int (o + q * w))).getD (.int 0) = .int ((getI la' (o + q * w)).getD 0) := by
        rw [lookD_int]; cases getI la' (o + q * w) <;> rfl
      have e2 : putD (kvI .int la') (.int (o + q * w)) (.int ((getI la' (o + q * w)).getD 0 + v)) = kvI .int (addP L w o la' q) := by
        unfold addP
        rw [hv, Option.getD_some, ← putD_int]
      simp only [wb3, e_non, e_bl, e_int, e_str, e_var, e_glob, e_bin, e_neg, e_cmp, e_isN, e_notN, e_chain, e_and_, e_or_, e_not_, e_ite, e_tup, e_lst, e_idx, e_sl, e_rev, e_sset, e_rng, e_call, e_callv, e_blt, e_isi, e_dis, e_dget, z_frz, z_app, z_ext, z_drop, z_set, z_setT, z_par, z_aug, z_put, z_augPut, z_ite, z_ret, z_retN, z_pass, z_brk, z_cont, z_never, z_nil, z_cons, evAnd, evOr, evF, evV, evKV, evI, evC, evP, seqF, setS, varOf, parS, augS, augI, appS, extS, putS, frzL, frzR, bindT, bindL, wipeR, kz, bz, oneI, dBin, dCmp, cLt, cLe, cGt, cGe, cEq_int, cNe_int, dIdx, dBi, bLen, bAbs, bInt, bSum, bMin, bMax, bAny, bAll, bSorted, bList, bTuple, isiD, noneB, fewD, dSl, Option.bind_some, Option.map_some, Option.bind_none, Option.map_none, isKey, keyD, zipD, intsD_map, boolsD_map, boolsD_mapf, intsD_mapf, Option.isSome_some, Nat.reduceLeDiff, Nat.zero_le, List.foldl_nil, List.length_cons, List.length_nil, List.length_map, List.map_cons, List.map_nil, List.cons_append, List.nil_append, List.replicate, List.getElem?_cons_zero, List.getElem?_cons_succ, List.set_cons_zero, List.set_cons_succ, ↓reduceIte, Bool.not_true, Bool.not_false, and_self, and_true, true_and, Bool.false_eq_true, reduceCtorEq, decide_true, decide_false, Nat.reduceAdd, Nat.reduceLT, Nat.reduceSub, Nat.reduceEqDiff, ne_eq, not_true_eq_false, not_false_eq_true, Option.some.injEq, exists_eq_left, Int.reduceNeg, beq_self_eq_true, Nat.zero_add, Nat.add_zero, realD_int, e0, e1, e2, kvI_length, hl2]
    · unfold addP
      have := putI_length la' (o + q * w) ((getI la' (o + q * w)).getD 0 + (getI L o).getD 0)
      omega
def wl2 : Sm := (.for_ (.nm 5) (.over (.var 2)) (.cons wl3 .nil))
theorem e_wl2 (k : Nat) (W : PyData) (p w : Int) (L : List (Int × Int)) (a b : Option (Bool × PyData)) (hL : L.length ≤ 30000) :
    ∃ a' b', evS (glI inf) (C k) 100000 wl2 [some (false, W), some (false, .int p), some (false, dct L), some (false, .int w), some (true, dct []), a, b] =
      some (.nx [some (false, W), some (false, .int p), some (false, dct L), some (false, .int w), some (true, dct (stepL p L w)), a', b']) := by
  have z := z_for (gl := glI inf) (c := C k) (n := 100000) (ρ := [some (false, W), some (false, .int p), some (false, dct L), some (false, .int w), some (true, dct []), a, b]) (t := .nm 5) (it := .over (.var 2))
    (b := (.cons wl3 .nil)) (l := L.map (·.1)) .int
    (fun rest ρ => ∃ la' a' b', ρ = [some (false, W), some (false, .int p), some (false, dct L), some (false, .int w), some (true, dct la'), a', b'] ∧ la'.length + 3 * rest.length ≤ 90000 ∧ rest.foldl (fun la o => (pl p).foldl (addP L w o) la) la' = stepL p L w ∧ ∀ q ∈ rest, (getI L q).isSome = true)
    (by simp only [e_non, e_bl, e_int, e_str, e_var, e_glob, e_bin, e_neg, e_cmp, e_isN, e_notN, e_chain, e_and_, e_or_, e_not_, e_ite, e_tup, e_lst, e_idx, e_sl, e_rev, e_sset, e_rng, e_call, e_callv, e_blt, e_isi, e_dis, e_dget, z_frz, z_app, z_ext, z_drop, z_set, z_setT, z_par, z_aug, z_put, z_augPut, z_ite, z_ret, z_retN, z_pass, z_brk, z_cont, z_never, z_nil, z_cons, evAnd, evOr, evF, evV, evKV, evI, evC, evP, seqF, setS, varOf, parS, augS, augI, appS, extS, putS, frzL, frzR, bindT, bindL, wipeR, kz, bz, oneI, dBin, dCmp, cLt, cLe, cGt, cGe, cEq_int, cNe_int, dIdx, dBi, bLen, bAbs, bInt, bSum, bMin, bMax, bAny, bAll, bSorted, bList, bTuple, isiD, noneB, fewD, dSl, Option.bind_some, Option.map_some, Option.bind_none, Option.map_none, isKey, keyD, zipD, intsD_map, boolsD_map, boolsD_mapf, intsD_mapf, Option.isSome_some, Nat.reduceLeDiff, Nat.zero_le, List.foldl_nil, List.length_cons, List.length_nil, List.length_map, List.map_cons, List.map_nil, List.cons_append, List.nil_append, List.replicate, List.getElem?_cons_zero, List.getElem?_cons_succ, List.set_cons_zero, List.set_cons_succ, ↓reduceIte, Bool.not_true, Bool.not_false, and_self, and_true, true_and, Bool.false_eq_true, reduceCtorEq, decide_true, decide_false, Nat.reduceAdd, Nat.reduceLT, Nat.reduceSub, Nat.reduceEqDiff, ne_eq, not_true_eq_false, not_false_eq_true, Option.some.injEq, exists_eq_left, Int.reduceNeg, beq_self_eq_true, Nat.zero_add, Nat.add_zero, realD_int, kvI_keys]) ⟨[], a, b, rfl, by rw [List.length_map, List.length_nil]; omega, rfl, fun q hq => getI_key.mpr hq⟩ ?_
  · obtain ⟨ρ', h1, la', a', b', h2, _, h3, _⟩ := z
    subst h2
    simp only [List.foldl_nil] at h3
    subst h3
    exact ⟨a', b', h1⟩
  · rintro q r ρ ⟨la', a', b', rfl, hl, hf, hq⟩
    rw [List.length_cons] at hl
    obtain ⟨b2, e⟩ := e_wl3 k W p w q L la' b' (hq q (List.mem_cons_self ..)) (by omega)
    refine ⟨_, _, by simp only [e_non, e_bl, e_int, e_str, e_var, e_glob, e_bin, e_neg, e_cmp, e_isN, e_notN, e_chain, e_and_, e_or_, e_not_, e_ite, e_tup, e_lst, e_idx, e_sl, e_rev, e_sset, e_rng, e_call, e_callv, e_blt, e_isi, e_dis, e_dget, z_frz, z_app, z_ext, z_drop, z_set, z_setT, z_par, z_aug, z_put, z_augPut, z_ite, z_ret, z_retN, z_pass, z_brk, z_cont, z_never, z_nil, z_cons, evAnd, evOr, evF, evV, evKV, evI, evC, evP, seqF, setS, varOf, parS, augS, augI, appS, extS, putS, frzL, frzR, bindT, bindL, wipeR, kz, bz, oneI, dBin, dCmp, cLt, cLe, cGt, cGe, cEq_int, cNe_int, dIdx, dBi, bLen, bAbs, bInt, bSum, bMin, bMax, bAny, bAll, bSorted, bList, bTuple, isiD, noneB, fewD, dSl, Option.bind_some, Option.map_some, Option.bind_none, Option.map_none, isKey, keyD, zipD, intsD_map, boolsD_map, boolsD_mapf, intsD_mapf, Option.isSome_some, Nat.reduceLeDiff, Nat.zero_le, List.foldl_nil, List.length_cons, List.length_nil, List.length_map, List.map_cons, List.map_nil, List.cons_append, List.nil_append, List.replicate, List.getElem?_cons_zero, List.getElem?_cons_succ, List.set_cons_zero, List.set_cons_succ, ↓reduceIte, Bool.not_true, Bool.not_false, and_self, and_true, true_and, Bool.false_eq_true, reduceCtorEq, decide_true, decide_false, Nat.reduceAdd, Nat.reduceLT, Nat.reduceSub, Nat.reduceEqDiff, ne_eq, not_true_eq_false, not_false_eq_true, Option.some.injEq, exists_eq_left, Int.reduceNeg, beq_self_eq_true, Nat.zero_add, Nat.add_zero]; rfl, .inl (by simp only [e_non, e_bl, e_int, e_str, e_var, e_glob, e_bin, e_neg, e_cmp, e_isN, e_notN, e_chain, e_and_, e_or_, e_not_, e_ite, e_tup, e_lst, e_idx, e_sl, e_rev, e_sset, e_rng, e_call, e_callv, e_blt, e_isi, e_dis, e_dget, z_frz, z_app, z_ext, z_drop, z_set, z_setT, z_par, z_aug, z_put, z_augPut, z_ite, z_ret, z_retN, z_pass, z_brk, z_cont, z_never, z_nil, z_cons, evAnd, evOr, evF, evV, evKV, evI, evC, evP, seqF, setS, varOf, parS, augS, augI, appS, extS, putS, frzL, frzR, bindT, bindL, wipeR, kz, bz, oneI, dBin, dCmp, cLt, cLe, cGt, cGe, cEq_int, cNe_int, dIdx, dBi, bLen, bAbs, bInt, bSum, bMin, bMax, bAny, bAll, bSorted, bList, bTuple, isiD, noneB, fewD, dSl, Option.bind_some, Option.map_some, Option.bind_none, Option.map_none, isKey, keyD, zipD, intsD_map, boolsD_map, boolsD_mapf, intsD_mapf, Option.isSome_some, Nat.reduceLeDiff, Nat.zero_le, List.foldl_nil, List.length_cons, List.length_nil, List.length_map, List.map_cons, List.map_nil, List.cons_append, List.nil_append, List.replicate, List.getElem?_cons_zero, List.getElem?_cons_succ, List.set_cons_zero, List.set_cons_succ, ↓reduceIte, Bool.not_true, Bool.not_false, and_self, and_true, true_and, Bool.false_eq_true, reduceCtorEq, decide_true, decide_false, Nat.reduceAdd, Nat.reduceLT, Nat.reduceSub, Nat.reduceEqDiff, ne_eq, not_true_eq_false, not_false_eq_true, Option.some.injEq, exists_eq_left, Int.reduceNeg, beq_self_eq_true, Nat.zero_add, Nat.add_zero, e]; rfl), _, _, _, rfl, ?_, hf, fun x hx => hq x (List.mem_cons_of_mem _ hx)⟩
    have h2 := addP_len L w q (pl p) la'
    have h3 := pl_len p
    dsimp only
    omega
theorem e_wl1 (k : Nat) (p : Int) (ws : List Int) (hl : ws.length ≤ 8) :
    ∃ a b c d, evS (glI inf) (C k) 100000 (.for_ (.nm 3) (.over (.var 0)) (.cons (.set 4 (.dis .nil)) (.cons wl2 (.cons (.set 2 (.var 4)) .nil)))) [some (false, tpI ws), some (false, .int p), some (false, dct [(0, 1)]), none, none, none, none] =
      some (.nx [some (false, tpI ws), some (false, .int p), some (false, dct (countsL ws p)), a, b, c, d]) := by
  have z := z_for (gl := glI inf) (c := C k) (n := 100000) (ρ := [some (false, tpI ws), some (false, .int p), some (false, dct [(0, 1)]), none, none, none, none]) (t := .nm 3) (it := .over (.var 0))
    (b := (.cons (.set 4 (.dis .nil)) (.cons wl2 (.cons (.set 2 (.var 4)) .nil)))) (l := ws) .int
    (fun rest ρ => ∃ L a b c d, ρ = [some (false, tpI ws), some (false, .int p), some (false, dct L), a, b, c, d] ∧ L.length * 3 ^ rest.length ≤ 6561 ∧ rest.foldl (stepL p) L = countsL ws p)
    (by simp only [e_non, e_bl, e_int, e_str, e_var, e_glob, e_bin, e_neg, e_cmp, e_isN, e_notN, e_chain, e_and_, e_or_, e_not_, e_ite, e_tup, e_lst, e_idx, e_sl, e_rev, e_sset, e_rng, e_call, e_callv, e_blt, e_isi, e_dis, e_dget, z_frz, z_app, z_ext, z_drop, z_set, z_setT, z_par, z_aug, z_put, z_augPut, z_ite, z_ret, z_retN, z_pass, z_brk, z_cont, z_never, z_nil, z_cons, evAnd, evOr, evF, evV, evKV, evI, evC, evP, seqF, setS, varOf, parS, augS, augI, appS, extS, putS, frzL, frzR, bindT, bindL, wipeR, kz, bz, oneI, dBin, dCmp, cLt, cLe, cGt, cGe, cEq_int, cNe_int, dIdx, dBi, bLen, bAbs, bInt, bSum, bMin, bMax, bAny, bAll, bSorted, bList, bTuple, isiD, noneB, fewD, dSl, Option.bind_some, Option.map_some, Option.bind_none, Option.map_none, isKey, keyD, zipD, intsD_map, boolsD_map, boolsD_mapf, intsD_mapf, Option.isSome_some, Nat.reduceLeDiff, Nat.zero_le, List.foldl_nil, List.length_cons, List.length_nil, List.length_map, List.map_cons, List.map_nil, List.cons_append, List.nil_append, List.replicate, List.getElem?_cons_zero, List.getElem?_cons_succ, List.set_cons_zero, List.set_cons_succ, ↓reduceIte, Bool.not_true, Bool.not_false, and_self, and_true, true_and, Bool.false_eq_true, reduceCtorEq, decide_true, decide_false, Nat.reduceAdd, Nat.reduceLT, Nat.reduceSub, Nat.reduceEqDiff, ne_eq, not_true_eq_false, not_false_eq_true, Option.some.injEq, exists_eq_left, Int.reduceNeg, beq_self_eq_true, Nat.zero_add, Nat.add_zero, tpI, beq_iff_eq]) ⟨_, none, none, none, none, rfl, ?_, rfl⟩ ?_
  · obtain ⟨ρ', h1, L, a, b, c, d, h2, _, h3⟩ := z
    subst h2
    simp only [List.foldl_nil] at h3
    subst h3
    exact ⟨a, b, c, d, h1⟩
  · have := Nat.pow_le_pow_right (n := 3) (by omega) hl
    simpa using this
  · rintro q r ρ ⟨L, a, b, c, d, rfl, hl, hf⟩
    rw [List.length_cons, Nat.pow_succ] at hl
    have hp : 1 ≤ 3 ^ r.length := Nat.one_le_pow _ _ (by omega)
    have hL : L.length * 3 ≤ 6561 := Nat.le_trans (Nat.mul_le_mul (Nat.le_refl _) (by omega)) hl
    obtain ⟨a2, b2, e2⟩ := e_wl2 k (tpI ws) p q L c d (by omega)
    refine ⟨_, [some (false, tpI ws), some (false, .int p), some (false, dct (stepL p L q)), some (false, .int q), some (false, dct (stepL p L q)), a2, b2], by simp only [e_non, e_bl, e_int, e_str, e_var, e_glob, e_bin, e_neg, e_cmp, e_isN, e_notN, e_chain, e_and_, e_or_, e_not_, e_ite, e_tup, e_lst, e_idx, e_sl, e_rev, e_sset, e_rng, e_call, e_callv, e_blt, e_isi, e_dis, e_dget, z_frz, z_app, z_ext, z_drop, z_set, z_setT, z_par, z_aug, z_put, z_augPut, z_ite, z_ret, z_retN, z_pass, z_brk, z_cont, z_never, z_nil, z_cons, evAnd, evOr, evF, evV, evKV, evI, evC, evP, seqF, setS, varOf, parS, augS, augI, appS, extS, putS, frzL, frzR, bindT, bindL, wipeR, kz, bz, oneI, dBin, dCmp, cLt, cLe, cGt, cGe, cEq_int, cNe_int, dIdx, dBi, bLen, bAbs, bInt, bSum, bMin, bMax, bAny, bAll, bSorted, bList, bTuple, isiD, noneB, fewD, dSl, Option.bind_some, Option.map_some, Option.bind_none, Option.map_none, isKey, keyD, zipD, intsD_map, boolsD_map, boolsD_mapf, intsD_mapf, Option.isSome_some, Nat.reduceLeDiff, Nat.zero_le, List.foldl_nil, List.length_cons, List.length_nil, List.length_map, List.map_cons, List.map_nil, List.cons_append, List.nil_append, List.replicate, List.getElem?_cons_zero, List.getElem?_cons_succ, List.set_cons_zero, List.set_cons_succ, ↓reduceIte, Bool.not_true, Bool.not_false, and_self, and_true, true_and, Bool.false_eq_true, reduceCtorEq, decide_true, decide_false, Nat.reduceAdd, Nat.reduceLT, Nat.reduceSub, Nat.reduceEqDiff, ne_eq, not_true_eq_false, not_false_eq_true, Option.some.injEq, exists_eq_left, Int.reduceNeg, beq_self_eq_true, Nat.zero_add, Nat.add_zero]; rfl, .inl ?_, stepL p L q, _, _, _, _, rfl, ?_, hf⟩
    · rw [show dct [] = .dict [] from rfl] at e2
      simp only [e_non, e_bl, e_int, e_str, e_var, e_glob, e_bin, e_neg, e_cmp, e_isN, e_notN, e_chain, e_and_, e_or_, e_not_, e_ite, e_tup, e_lst, e_idx, e_sl, e_rev, e_sset, e_rng, e_call, e_callv, e_blt, e_isi, e_dis, e_dget, z_frz, z_app, z_ext, z_drop, z_set, z_setT, z_par, z_aug, z_put, z_augPut, z_ite, z_ret, z_retN, z_pass, z_brk, z_cont, z_never, z_nil, z_cons, evAnd, evOr, evF, evV, evKV, evI, evC, evP, seqF, setS, varOf, parS, augS, augI, appS, extS, putS, frzL, frzR, bindT, bindL, wipeR, kz, bz, oneI, dBin, dCmp, cLt, cLe, cGt, cGe, cEq_int, cNe_int, dIdx, dBi, bLen, bAbs, bInt, bSum, bMin, bMax, bAny, bAll, bSorted, bList, bTuple, isiD, noneB, fewD, dSl, Option.bind_some, Option.map_some, Option.bind_none, Option.map_none, isKey, keyD, zipD, intsD_map, boolsD_map, boolsD_mapf, intsD_mapf, Option.isSome_some, Nat.reduceLeDiff, Nat.zero_le, List.foldl_nil, List.length_cons, List.length_nil, List.length_map, List.map_cons, List.map_nil, List.cons_append, List.nil_append, List.replicate, List.getElem?_cons_zero, List.getElem?_cons_succ, List.set_cons_zero, List.set_cons_succ, ↓reduceIte, Bool.not_true, Bool.not_false, and_self, and_true, true_and, Bool.false_eq_true, reduceCtorEq, decide_true, decide_false, Nat.reduceAdd, Nat.reduceLT, Nat.reduceSub, Nat.reduceEqDiff, ne_eq, not_true_eq_false, not_false_eq_true, Option.some.injEq, exists_eq_left, Int.reduceNeg, beq_self_eq_true, Nat.zero_add, Nat.add_zero, e2]
    · have := stepL_len p L q
      calc _ ≤ (3 * L.length) * 3 ^ r.length := Nat.mul_le_mul_right _ this
        _ = L.length * (3 ^ r.length * 3) := by rw [Nat.mul_comm 3, Nat.mul_assoc, Nat.mul_comm 3]
        _ ≤ _ := hl
theorem c__law_ways (k : Nat) (ws : List Int) (p : Int) (hl : ws.length ≤ 8) : C (k + 1) "_law_ways" [tpI ws, .int p] = some (dct (countsL ws p)) := by
  rw [cS k__law_ways]
  obtain ⟨a, b, c, d, h⟩ := e_wl1 k p ws hl
  have hb : t__law_ways.body = .cons (.set 2 (.dis (.cons (.int 0) (.cons (.int 1) .nil)))) (.cons (.frz [2]) (.cons (.for_ (.nm 3) (.over (.var 0)) (.cons (.set 4 (.dis .nil)) (.cons wl2 (.cons (.set 2 (.var 4)) .nil)))) (.cons (.ret (.var 2)) .nil))) := by rfl
  have e0 : [((PyData.int 0), (PyData.int 1))].foldl (fun acc p => putD acc p.1 p.2) [] = kvI .int [(0, 1)] := by rfl
  simp only [run1, Tx.df, hb]
  simp only [e_non, e_bl, e_int, e_str, e_var, e_glob, e_bin, e_neg, e_cmp, e_isN, e_notN, e_chain, e_and_, e_or_, e_not_, e_ite, e_tup, e_lst, e_idx, e_sl, e_rev, e_sset, e_rng, e_call, e_callv, e_blt, e_isi, e_dis, e_dget, z_frz, z_app, z_ext, z_drop, z_set, z_setT, z_par, z_aug, z_put, z_augPut, z_ite, z_ret, z_retN, z_pass, z_brk, z_cont, z_never, z_nil, z_cons, evAnd, evOr, evF, evV, evKV, evI, evC, evP, seqF, setS, varOf, parS, augS, augI, appS, extS, putS, frzL, frzR, bindT, bindL, wipeR, kz, bz, oneI, dBin, dCmp, cLt, cLe, cGt, cGe, cEq_int, cNe_int, dIdx, dBi, bLen, bAbs, bInt, bSum, bMin, bMax, bAny, bAll, bSorted, bList, bTuple, isiD, noneB, fewD, dSl, Option.bind_some, Option.map_some, Option.bind_none, Option.map_none, isKey, keyD, zipD, intsD_map, boolsD_map, boolsD_mapf, intsD_mapf, Option.isSome_some, Nat.reduceLeDiff, Nat.zero_le, List.foldl_nil, List.length_cons, List.length_nil, List.length_map, List.map_cons, List.map_nil, List.cons_append, List.nil_append, List.replicate, List.getElem?_cons_zero, List.getElem?_cons_succ, List.set_cons_zero, List.set_cons_succ, ↓reduceIte, Bool.not_true, Bool.not_false, and_self, and_true, true_and, Bool.false_eq_true, reduceCtorEq, decide_true, decide_false, Nat.reduceAdd, Nat.reduceLT, Nat.reduceSub, Nat.reduceEqDiff, ne_eq, not_true_eq_false, not_false_eq_true, Option.some.injEq, exists_eq_left, Int.reduceNeg, beq_self_eq_true, Nat.zero_add, Nat.add_zero, t__law_ways, e0, h]
/-! _law_draws -/
theorem log_lt {i : Int} (h1 : -2147483648 < i) (h2 : i < 2147483648) : i.natAbs.log2 < 32 := by
  by_cases h : i.natAbs = 0
  · rw [h]; decide
  · rw [Nat.log2_lt h]
    have : (2 : Nat) ^ 32 = 4294967296 := by decide
    omega
theorem mul_ok2 {i j : Int} (h1 : -2147483648 < i) (h2 : i < 2147483648) (h3 : -2147483648 < j) (h4 : j < 2147483648) : i.natAbs.log2 + j.natAbs.log2 < 1000000 := by
  have := log_lt h1 h2
  have := log_lt h3 h4
  omega
def Dr (ds : List Int) : Prop := ∀ d ∈ ds, 0 ≤ d ∧ d < 65521
theorem Dr.snoc {ds : List Int} {d : Int} (h : Dr ds) (h1 : 0 ≤ d) (h2 : d < 65521) : Dr (ds ++ [d]) := fun x hx => by
  rcases List.mem_append.mp hx with hx | hx
  · exact h x hx
  · simp at hx; subst hx; exact ⟨h1, h2⟩
theorem lI_snoc (ds : List Int) (d : Int) : ds.map PyData.int ++ [.int d] = (ds ++ [d]).map .int := by rw [List.map_append]; rfl
theorem fd_ok : (1009 : Int).natAbs.log2 < 9000 ∧ (3 : Int).natAbs.log2 < 9000 ∧ (7 : Int).natAbs.log2 < 9000 := ⟨by decide, by decide, by decide⟩
def dlk : Sm := (.cons (.ite (.cmp .gt (.var 5) (.int 0)) (.cons (.app 2 (.bin .mod (.blt .int (.cons (.var 5) .nil)) (.int 1009)))
  (.cons (.set 5 (.bin .fdiv (.var 5) (.int 1009)))
  .nil)) .nil)
  .nil)
theorem e_dlk (k : Nat) (S M s c : PyData) (ds : List Int) (n : Int) (x : Option (Bool × PyData)) (hd : Dr ds) (hl : ds.length ≤ 50000) : ∃ ds' n' x', evS (glI inf) (C k) 100000 (.for_ (.nm 6) (.range1 (.int 60)) dlk) [some (false, S), some (false, M), some (true, lI ds), some (false, s), some (false, c), some (false, .int n), x] =
    some (.nx [some (false, S), some (false, M), some (true, lI ds'), some (false, s), some (false, c), some (false, .int n'), x']) ∧ Dr ds' ∧ ds'.length ≤ ds.length + 60 := by
  have z := z_for (gl := glI inf) (c := C k) (n := 100000) (ρ := [some (false, S), some (false, M), some (true, lI ds), some (false, s), some (false, c), some (false, .int n), x]) (t := .nm 6) (it := .range1 (.int 60)) (b := dlk) (l := List.range 60) (fun i : Nat => .int (0 + (i : Int)))
    (fun rest ρ => ∃ ds' n' x', ρ = [some (false, S), some (false, M), some (true, lI ds'), some (false, s), some (false, c), some (false, .int n'), x'] ∧ Dr ds' ∧ ds'.length + rest.length ≤ ds.length + 60)
    (by simp only [e_non, e_bl, e_int, e_str, e_var, e_glob, e_bin, e_neg, e_cmp, e_isN, e_notN, e_chain, e_and_, e_or_, e_not_, e_ite, e_tup, e_lst, e_idx, e_sl, e_rev, e_sset, e_rng, e_call, e_callv, e_blt, e_isi, e_dis, e_dget, z_frz, z_app, z_ext, z_drop, z_set, z_setT, z_par, z_aug, z_put, z_augPut, z_ite, z_ret, z_retN, z_pass, z_brk, z_cont, z_never, z_nil, z_cons, evAnd, evOr, evF, evV, evKV, evI, evC, evP, seqF, setS, varOf, parS, augS, augI, appS, extS, putS, frzL, frzR, bindT, bindL, wipeR, kz, bz, oneI, dBin, dCmp, cLt, cLe, cGt, cGe, cEq_int, cNe_int, dIdx, dBi, bLen, bAbs, bInt, bSum, bMin, bMax, bAny, bAll, bSorted, bList, bTuple, isiD, noneB, fewD, dSl, Option.bind_some, Option.map_some, Option.bind_none, Option.map_none, isKey, keyD, zipD, intsD_map, boolsD_map, boolsD_mapf, intsD_mapf, Option.isSome_some, Nat.reduceLeDiff, Nat.zero_le, List.foldl_nil, List.length_cons, List.length_nil, List.length_map, List.map_cons, List.map_nil, List.cons_append, List.nil_append, List.replicate, List.getElem?_cons_zero, List.getElem?_cons_succ, List.set_cons_zero, List.set_cons_succ, ↓reduceIte, Bool.not_true, Bool.not_false, and_self, and_true, true_and, Bool.false_eq_true, reduceCtorEq, decide_true, decide_false, Nat.reduceAdd, Nat.reduceLT, Nat.reduceSub, Nat.reduceEqDiff, ne_eq, not_true_eq_false, not_false_eq_true, Option.some.injEq, exists_eq_left, Int.reduceNeg, beq_self_eq_true, Nat.zero_add, Nat.add_zero]; rfl) ⟨ds, n, x, rfl, hd, by simp⟩ ?_
  · obtain ⟨ρ', h1, ds', n', x', h2, h3, h4⟩ := z
    subst h2
    exact ⟨ds', n', x', h1, h3, by simpa using h4⟩
  · rintro q r ρ ⟨ds', n', x', rfl, hd', hl'⟩
    rw [List.length_cons] at hl'
    by_cases hn : 0 < n'
    · have hl2 : ds'.length < 100000 := by omega
      refine ⟨_, _, by simp only [e_non, e_bl, e_int, e_str, e_var, e_glob, e_bin, e_neg, e_cmp, e_isN, e_notN, e_chain, e_and_, e_or_, e_not_, e_ite, e_tup, e_lst, e_idx, e_sl, e_rev, e_sset, e_rng, e_call, e_callv, e_blt, e_isi, e_dis, e_dget, z_frz, z_app, z_ext, z_drop, z_set, z_setT, z_par, z_aug, z_put, z_augPut, z_ite, z_ret, z_retN, z_pass, z_brk, z_cont, z_never, z_nil, z_cons, evAnd, evOr, evF, evV, evKV, evI, evC, evP, seqF, setS, varOf, parS, augS, augI, appS, extS, putS, frzL, frzR, bindT, bindL, wipeR, kz, bz, oneI, dBin, dCmp, cLt, cLe, cGt, cGe, cEq_int, cNe_int, dIdx, dBi, bLen, bAbs, bInt, bSum, bMin, bMax, bAny, bAll, bSorted, bList, bTuple, isiD, noneB, fewD, dSl, Option.bind_some, Option.map_some, Option.bind_none, Option.map_none, isKey, keyD, zipD, intsD_map, boolsD_map, boolsD_mapf, intsD_mapf, Option.isSome_some, Nat.reduceLeDiff, Nat.zero_le, List.foldl_nil, List.length_cons, List.length_nil, List.length_map, List.map_cons, List.map_nil, List.cons_append, List.nil_append, List.replicate, List.getElem?_cons_zero, List.getElem?_cons_succ, List.set_cons_zero, List.set_cons_succ, ↓reduceIte, Bool.not_true, Bool.not_false, and_self, and_true, true_and, Bool.false_eq_true, reduceCtorEq, decide_true, decide_false, Nat.reduceAdd, Nat.reduceLT, Nat.reduceSub, Nat.reduceEqDiff, ne_eq, not_true_eq_false, not_false_eq_true, Option.some.injEq, exists_eq_left, Int.reduceNeg, beq_self_eq_true, Nat.zero_add, Nat.add_zero]; rfl, .inl (by simp only [dlk, e_non, e_bl, e_int, e_str, e_var, e_glob, e_bin, e_neg, e_cmp, e_isN, e_notN, e_chain, e_and_, e_or_, e_not_, e_ite, e_tup, e_lst, e_idx, e_sl, e_rev, e_sset, e_rng, e_call, e_callv, e_blt, e_isi, e_dis, e_dget, z_frz, z_app, z_ext, z_drop, z_set, z_setT, z_par, z_aug, z_put, z_augPut, z_ite, z_ret, z_retN, z_pass, z_brk, z_cont, z_never, z_nil, z_cons, evAnd, evOr, evF, evV, evKV, evI, evC, evP, seqF, setS, varOf, parS, augS, augI, appS, extS, putS, frzL, frzR, bindT, bindL, wipeR, kz, bz, oneI, dBin, dCmp, cLt, cLe, cGt, cGe, cEq_int, cNe_int, dIdx, dBi, bLen, bAbs, bInt, bSum, bMin, bMax, bAny, bAll, bSorted, bList, bTuple, isiD, noneB, fewD, dSl, Option.bind_some, Option.map_some, Option.bind_none, Option.map_none, isKey, keyD, zipD, intsD_map, boolsD_map, boolsD_mapf, intsD_mapf, Option.isSome_some, Nat.reduceLeDiff, Nat.zero_le, List.foldl_nil, List.length_cons, List.length_nil, List.length_map, List.map_cons, List.map_nil, List.cons_append, List.nil_append, List.replicate, List.getElem?_cons_zero, List.getElem?_cons_succ, List.set_cons_zero, List.set_cons_succ, ↓reduceIte, Bool.not_true, Bool.not_false, and_self, and_true, true_and, Bool.false_eq_true, reduceCtorEq, decide_true, decide_false, Nat.reduceAdd, Nat.reduceLT, Nat.reduceSub, Nat.reduceEqDiff, ne_eq, not_true_eq_false, not_false_eq_true, Option.some.injEq, exists_eq_left, Int.reduceNeg, beq_self_eq_true, Nat.zero_add, Nat.add_zero, hn, fd_ok, Int.reduceLT, lI, hl2, lI_snoc]; rfl), ds' ++ [n' % 1009], _, _, rfl, hd'.snoc (by omega) (by omega), by simp; omega⟩
    · refine ⟨_, _, by simp only [e_non, e_bl, e_int, e_str, e_var, e_glob, e_bin, e_neg, e_cmp, e_isN, e_notN, e_chain, e_and_, e_or_, e_not_, e_ite, e_tup, e_lst, e_idx, e_sl, e_rev, e_sset, e_rng, e_call, e_callv, e_blt, e_isi, e_dis, e_dget, z_frz, z_app, z_ext, z_drop, z_set, z_setT, z_par, z_aug, z_put, z_augPut, z_ite, z_ret, z_retN, z_pass, z_brk, z_cont, z_never, z_nil, z_cons, evAnd, evOr, evF, evV, evKV, evI, evC, evP, seqF, setS, varOf, parS, augS, augI, appS, extS, putS, frzL, frzR, bindT, bindL, wipeR, kz, bz, oneI, dBin, dCmp, cLt, cLe, cGt, cGe, cEq_int, cNe_int, dIdx, dBi, bLen, bAbs, bInt, bSum, bMin, bMax, bAny, bAll, bSorted, bList, bTuple, isiD, noneB, fewD, dSl, Option.bind_some, Option.map_some, Option.bind_none, Option.map_none, isKey, keyD, zipD, intsD_map, boolsD_map, boolsD_mapf, intsD_mapf, Option.isSome_some, Nat.reduceLeDiff, Nat.zero_le, List.foldl_nil, List.length_cons, List.length_nil, List.length_map, List.map_cons, List.map_nil, List.cons_append, List.nil_append, List.replicate, List.getElem?_cons_zero, List.getElem?_cons_succ, List.set_cons_zero, List.set_cons_succ, ↓reduceIte, Bool.not_true, Bool.not_false, and_self, and_true, true_and, Bool.false_eq_true, reduceCtorEq, decide_true, decide_false, Nat.reduceAdd, Nat.reduceLT, Nat.reduceSub, Nat.reduceEqDiff, ne_eq, not_true_eq_false, not_false_eq_true, Option.some.injEq, exists_eq_left, Int.reduceNeg, beq_self_eq_true, Nat.zero_add, Nat.add_zero]; rfl, .inl (by simp only [dlk, e_non, e_bl, e_int, e_str, e_var, e_glob, e_bin, e_neg, e_cmp, e_isN, e_notN, e_chain, e_and_, e_or_, e_not_, e_ite, e_tup, e_lst, e_idx, e_sl, e_rev, e_sset, e_rng, e_call, e_callv, e_blt, e_isi, e_dis, e_dget, z_frz, z_app, z_ext, z_drop, z_set, z_setT, z_par, z_aug, z_put, z_augPut, z_ite, z_ret, z_retN, z_pass, z_brk, z_cont, z_never, z_nil, z_cons, evAnd, evOr, evF, evV, evKV, evI, evC, evP, seqF, setS, varOf, parS, augS, augI, appS, extS, putS, frzL, frzR, bindT, bindL, wipeR, kz, bz, oneI, dBin, dCmp, cLt, cLe, cGt, cGe, cEq_int, cNe_int, dIdx, dBi, bLen, bAbs, bInt, bSum, bMin, bMax, bAny, bAll, bSorted, bList, bTuple, isiD, noneB, fewD, dSl, Option.bind_some, Option.map_some, Option.bind_none, Option.map_none, isKey, keyD, zipD, intsD_map, boolsD_map, boolsD_mapf, intsD_mapf, Option.isSome_some, Nat.reduceLeDiff, Nat.zero_le, List.foldl_nil, List.length_cons, List.length_nil, List.length_map, List.map_cons, List.map_nil, List.cons_append, List.nil_append, List.replicate, List.getElem?_cons_zero, List.getElem?_cons_succ, List.set_cons_zero, List.set_cons_succ, ↓reduceIte, Bool.not_true, Bool.not_false, and_self, and_true, true_and, Bool.false_eq_true, reduceCtorEq, decide_true, decide_false, Nat.reduceAdd, Nat.reduceLT, Nat.reduceSub, Nat.reduceEqDiff, ne_eq, not_true_eq_false, not_false_eq_true, Option.some.injEq, exists_eq_left, Int.reduceNeg, beq_self_eq_true, Nat.zero_add, Nat.add_zero, hn]; rfl), ds', _, _, rfl, hd', by omega⟩
end Bw.K3

namespace Bw.K3
open PySem
def dlc : Sm := (.cons (.set 5 (.blt .abs (.cons (.var 4) .nil)))
  (.cons (.set 3 (.bin .mod (.blt .int (.cons (.bin .add (.bin .add (.bin .mul (.var 3) (.int 48271)) (.var 5)) (.int 11)) .nil)) (.int 2147483647)))
  (.cons (.ite (.cmp .ge (.var 5) (.bin .pow (.int 10) (.int 18))) (.cons (.for_ (.nm 6) (.range1 (.int 60)) dlk)
  .nil) (.cons (.app 2 (.bin .mod (.bin .fdiv (.blt .int (.cons (.bin .add (.bin .mul (.var 3) (.int 16807)) (.int 5)) .nil)) (.int 3)) (.int 65521)))
  .nil))
  .nil)))
theorem e_dlc (k : Nat) (S M : PyData) (ns : List Int) (hns : ns.length ≤ 63) (hS : S = lkD ns) : ∃ ds s a b c, evS (glI inf) (C k) 100000 (.for_ (.nm 4) (.over (.sl (.var 0) .no (.int 63))) dlc) [some (false, S), some (false, M), some (true, lI []), some (false, .int 7), none, none, none] =
    some (.nx [some (false, S), some (false, M), some (true, lI ds), some (false, .int s), a, b, c]) ∧ Dr ds ∧ ds.length ≤ 3780 ∧ 0 ≤ s ∧ s < 2147483647 := by
  have hcut : cutD (ns.map PyData.int) none (some 63) = ns.map .int := by
    unfold cutD
    rw [List.length_map, show ((63 : Int)) = ((63 : Nat) : Int) from rfl, HT.sIx_nat, HT.sIx_none]
    rw [Nat.min_eq_right hns, Nat.sub_zero, List.drop_zero, List.take_of_length_le (by rw [List.length_map]; omega)]
  have z := z_for (gl := glI inf) (c := C k) (n := 100000) (ρ := [some (false, S), some (false, M), some (true, lI []), some (false, .int 7), none, none, none]) (t := .nm 4) (it := .over (.sl (.var 0) .no (.int 63))) (b := dlc) (l := ns) .int
    (fun rest ρ => ∃ ds s a b c, ρ = [some (false, S), some (false, M), some (true, lI ds), some (false, .int s), a, b, c] ∧ Dr ds ∧ ds.length + 60 * rest.length ≤ 3780 ∧ 0 ≤ s ∧ s < 2147483647)
    (by subst hS; simp only [e_non, e_bl, e_int, e_str, e_var, e_glob, e_bin, e_neg, e_cmp, e_isN, e_notN, e_chain, e_and_, e_or_, e_not_, e_ite, e_tup, e_lst, e_idx, e_sl, e_rev, e_sset, e_rng, e_call, e_callv, e_blt, e_isi, e_dis, e_dget, z_frz, z_app, z_ext, z_drop, z_set, z_setT, z_par, z_aug, z_put, z_augPut, z_ite, z_ret, z_retN, z_pass, z_brk, z_cont, z_never, z_nil, z_cons, evAnd, evOr, evF, evV, evKV, evI, evC, evP, seqF, setS, varOf, parS, augS, augI, appS, extS, putS, frzL, frzR, bindT, bindL, wipeR, kz, bz, oneI, dBin, dCmp, cLt, cLe, cGt, cGe, cEq_int, cNe_int, dIdx, dBi, bLen, bAbs, bInt, bSum, bMin, bMax, bAny, bAll, bSorted, bList, bTuple, isiD, noneB, fewD, dSl, Option.bind_some, Option.map_some, Option.bind_none, Option.map_none, isKey, keyD, zipD, intsD_map, boolsD_map, boolsD_mapf, intsD_mapf, Option.isSome_some, Nat.reduceLeDiff, Nat.zero_le, List.foldl_nil, List.length_cons, List.length_nil, List.length_map, List.map_cons, List.map_nil, List.cons_append, List.nil_append, List.replicate, List.getElem?_cons_zero, List.getElem?_cons_succ, List.set_cons_zero, List.set_cons_succ, ↓reduceIte, Bool.not_true, Bool.not_false, and_self, and_true, true_and, Bool.false_eq_true, reduceCtorEq, decide_true, decide_false, Nat.reduceAdd, Nat.reduceLT, Nat.reduceSub, Nat.reduceEqDiff, ne_eq, not_true_eq_false, not_false_eq_true, Option.some.injEq, exists_eq_left, Int.reduceNeg, beq_self_eq_true, Nat.zero_add, Nat.add_zero, lkD, hcut]; rfl) ⟨[], 7, none, none, none, rfl, fun _ h => by simp at h, by simp; omega, by omega, by omega⟩ ?_
  · obtain ⟨ρ', h1, ds, s, a, b, c, h2, h3, h4, h5, h6⟩ := z
    subst h2
    exact ⟨ds, s, a, b, c, h1, h3, by simpa using h4, h5, h6⟩
  · rintro q r ρ ⟨ds, s, a, b, c, rfl, hd, hl, h1, h2⟩
    rw [List.length_cons] at hl
    have m1 := mul_ok2 (i := s) (j := 48271) (by omega) (by omega) (by omega) (by omega)
    have p1 : (0 : Int) ≤ 18 ∧ (18 : Int) ≤ 1000 ∧ (10 : Int).natAbs < 18446744073709551616 := by decide
    have p2 : (0 : Int) < 2147483647 := by decide
    generalize hs : (s * 48271 + (if q < 0 then -q else q) + 11) % 2147483647 = s2
    have s2a : 0 ≤ s2 := by omega
    have s2b : s2 < 2147483647 := by omega
    generalize hq : (if q < 0 then -q else q) = aq at hs
    by_cases hn : (10 : Int) ^ (18 : Int).toNat ≤ aq
    · obtain ⟨ds', n', x', e, hd', hl'⟩ := e_dlk k S M (.int s2) (.int q) ds aq c hd (by omega)
      refine ⟨_, _, by simp only [e_non, e_bl, e_int, e_str, e_var, e_glob, e_bin, e_neg, e_cmp, e_isN, e_notN, e_chain, e_and_, e_or_, e_not_, e_ite, e_tup, e_lst, e_idx, e_sl, e_rev, e_sset, e_rng, e_call, e_callv, e_blt, e_isi, e_dis, e_dget, z_frz, z_app, z_ext, z_drop, z_set, z_setT, z_par, z_aug, z_put, z_augPut, z_ite, z_ret, z_retN, z_pass, z_brk, z_cont, z_never, z_nil, z_cons, evAnd, evOr, evF, evV, evKV, evI, evC, evP, seqF, setS, varOf, parS, augS, augI, appS, extS, putS, frzL, frzR, bindT, bindL, wipeR, kz, bz, oneI, dBin, dCmp, cLt, cLe, cGt, cGe, cEq_int, cNe_int, dIdx, dBi, bLen, bAbs, bInt, bSum, bMin, bMax, bAny, bAll, bSorted, bList, bTuple, isiD, noneB, fewD, dSl, Option.bind_some, Option.map_some, Option.bind_none, Option.map_none, isKey, keyD, zipD, intsD_map, boolsD_map, boolsD_mapf, intsD_mapf, Option.isSome_some, Nat.reduceLeDiff, Nat.zero_le, List.foldl_nil, List.length_cons, List.length_nil, List.length_map, List.map_cons, List.map_nil, List.cons_append, List.nil_append, List.replicate, List.getElem?_cons_zero, List.getElem?_cons_succ, List.set_cons_zero, List.set_cons_succ, ↓reduceIte, Bool.not_true, Bool.not_false, and_self, and_true, true_and, Bool.false_eq_true, reduceCtorEq, decide_true, decide_false, Nat.reduceAdd, Nat.reduceLT, Nat.reduceSub, Nat.reduceEqDiff, ne_eq, not_true_eq_false, not_false_eq_true, Option.some.injEq, exists_eq_left, Int.reduceNeg, beq_self_eq_true, Nat.zero_add, Nat.add_zero]; rfl, .inl (by simp only [dlc, e_non, e_bl, e_int, e_str, e_var, e_glob, e_bin, e_neg, e_cmp, e_isN, e_notN, e_chain, e_and_, e_or_, e_not_, e_ite, e_tup, e_lst, e_idx, e_sl, e_rev, e_sset, e_rng, e_call, e_callv, e_blt, e_isi, e_dis, e_dget, z_frz, z_app, z_ext, z_drop, z_set, z_setT, z_par, z_aug, z_put, z_augPut, z_ite, z_ret, z_retN, z_pass, z_brk, z_cont, z_never, z_nil, z_cons, evAnd, evOr, evF, evV, evKV, evI, evC, evP, seqF, setS, varOf, parS, augS, augI, appS, extS, putS, frzL, frzR, bindT, bindL, wipeR, kz, bz, oneI, dBin, dCmp, cLt, cLe, cGt, cGe, cEq_int, cNe_int, dIdx, dBi, bLen, bAbs, bInt, bSum, bMin, bMax, bAny, bAll, bSorted, bList, bTuple, isiD, noneB, fewD, dSl, Option.bind_some, Option.map_some, Option.bind_none, Option.map_none, isKey, keyD, zipD, intsD_map, boolsD_map, boolsD_mapf, intsD_mapf, Option.isSome_some, Nat.reduceLeDiff, Nat.zero_le, List.foldl_nil, List.length_cons, List.length_nil, List.length_map, List.map_cons, List.map_nil, List.cons_append, List.nil_append, List.replicate, List.getElem?_cons_zero, List.getElem?_cons_succ, List.set_cons_zero, List.set_cons_succ, ↓reduceIte, Bool.not_true, Bool.not_false, and_self, and_true, true_and, Bool.false_eq_true, reduceCtorEq, decide_true, decide_false, Nat.reduceAdd, Nat.reduceLT, Nat.reduceSub, Nat.reduceEqDiff, ne_eq, not_true_eq_false, not_false_eq_true, Option.some.injEq, exists_eq_left, Int.reduceNeg, beq_self_eq_true, Nat.zero_add, Nat.add_zero, hq, m1, hs, p1, p2, hn, e]; rfl), ds', s2, _, _, _, rfl, hd', by omega, s2a, s2b⟩
    · have m2 := mul_ok2 (i := s2) (j := 16807) (by omega) (by omega) (by omega) (by omega)
      have hl2 : ds.length < 100000 := by omega
      refine ⟨_, _, by simp only [e_non, e_bl, e_int, e_str, e_var, e_glob, e_bin, e_neg, e_cmp, e_isN, e_notN, e_chain, e_and_, e_or_, e_not_, e_ite, e_tup, e_lst, e_idx, e_sl, e_rev, e_sset, e_rng, e_call, e_callv, e_blt, e_isi, e_dis, e_dget, z_frz, z_app, z_ext, z_drop, z_set, z_setT, z_par, z_aug, z_put, z_augPut, z_ite, z_ret, z_retN, z_pass, z_brk, z_cont, z_never, z_nil, z_cons, evAnd, evOr, evF, evV, evKV, evI, evC, evP, seqF, setS, varOf, parS, augS, augI, appS, extS, putS, frzL, frzR, bindT, bindL, wipeR, kz, bz, oneI, dBin, dCmp, cLt, cLe, cGt, cGe, cEq_int, cNe_int, dIdx, dBi, bLen, bAbs, bInt, bSum, bMin, bMax, bAny, bAll, bSorted, bList, bTuple, isiD, noneB, fewD, dSl, Option.bind_some, Option.map_some, Option.bind_none, Option.map_none, isKey, keyD, zipD, intsD_map, boolsD_map, boolsD_mapf, intsD_mapf, Option.isSome_some, Nat.reduceLeDiff, Nat.zero_le, List.foldl_nil, List.length_cons, List.length_nil, List.length_map, List.map_cons, List.map_nil, List.cons_append, List.nil_append, List.replicate, List.getElem?_cons_zero, List.getElem?_cons_succ, List.set_cons_zero, List.set_cons_succ, ↓reduceIte, Bool.not_true, Bool.not_false, and_self, and_true, true_and, Bool.false_eq_true, reduceCtorEq, decide_true, decide_false, Nat.reduceAdd, Nat.reduceLT, Nat.reduceSub, Nat.reduceEqDiff, ne_eq, not_true_eq_false, not_false_eq_true, Option.some.injEq, exists_eq_left, Int.reduceNeg, beq_self_eq_true, Nat.zero_add, Nat.add_zero]; rfl, .inl (by simp only [dlc, e_non, e_bl, e_int, e_str, e_var, e_glob, e_bin, e_neg, e_cmp, e_isN, e_notN, e_chain, e_and_, e_or_, e_not_, e_ite, e_tup, e_lst, e_idx, e_sl, e_rev, e_sset, e_rng, e_call, e_callv, e_blt, e_isi, e_dis, e_dget, z_frz, z_app, z_ext, z_drop, z_set, z_setT, z_par, z_aug, z_put, z_augPut, z_ite, z_ret, z_retN, z_pass, z_brk, z_cont, z_never, z_nil, z_cons, evAnd, evOr, evF, evV, evKV, evI, evC, evP, seqF, setS, varOf, parS, augS, augI, appS, extS, putS, frzL, frzR, bindT, bindL, wipeR, kz, bz, oneI, dBin, dCmp, cLt, cLe, cGt, cGe, cEq_int, cNe_int, dIdx, dBi, bLen, bAbs, bInt, bSum, bMin, bMax, bAny, bAll, bSorted, bList, bTuple, isiD, noneB, fewD, dSl, Option.bind_some, Option.map_some, Option.bind_none, Option.map_none, isKey, keyD, zipD, intsD_map, boolsD_map, boolsD_mapf, intsD_mapf, Option.isSome_some, Nat.reduceLeDiff, Nat.zero_le, List.foldl_nil, List.length_cons, List.length_nil, List.length_map, List.map_cons, List.map_nil, List.cons_append, List.nil_append, List.replicate, List.getElem?_cons_zero, List.getElem?_cons_succ, List.set_cons_zero, List.set_cons_succ, ↓reduceIte, Bool.not_true, Bool.not_false, and_self, and_true, true_and, Bool.false_eq_true, reduceCtorEq, decide_true, decide_false, Nat.reduceAdd, Nat.reduceLT, Nat.reduceSub, Nat.reduceEqDiff, ne_eq, not_true_eq_false, not_false_eq_true, Option.some.injEq, exists_eq_left, Int.reduceNeg, beq_self_eq_true, Nat.zero_add, Nat.add_zero, hq, m1, hs, p1, p2, hn, m2, fd_ok, Int.reduceLT, lI, hl2, lI_snoc]; rfl), ds ++ [(s2 * 16807 + 5) / 3 % 65521], s2, _, _, _, rfl, hd.snoc (by omega) (by omega), by simp; omega, s2a, s2b⟩
def dlf : Sm := (.cons (.ite (.cmp .lt (.blt .len (.cons (.var 2) .nil)) (.var 1)) (.cons (.set 3 (.bin .mod (.blt .int (.cons (.bin .add (.bin .add (.bin .mul (.var 3) (.int 69621)) (.var 6)) (.int 1)) .nil)) (.int 2147483647)))
  (.cons (.app 2 (.bin .mod (.bin .fdiv (.blt .int (.cons (.var 3) .nil)) (.int 7)) (.int 65521)))
  .nil)) .nil)
  .nil)
theorem e_dlf (k : Nat) (S : PyData) (m : Nat) (hm : m ≤ 10000) (ds : List Int) (s : Int) (a b c : Option (Bool × PyData)) (hd : Dr ds) (hl : ds.length ≤ 3780) (h1 : 0 ≤ s) (h2 : s < 2147483647) : ∃ ds' s' a' b' c', evS (glI inf) (C k) 100000 (.for_ (.nm 6) (.range1 (.var 1)) dlf) [some (false, S), some (false, .int m), some (true, lI ds), some (false, .int s), a, b, c] =
    some (.nx [some (false, S), some (false, .int m), some (true, lI ds'), some (false, .int s'), a', b', c']) ∧ Dr ds' ∧ m ≤ ds'.length ∧ ds'.length ≤ 20000 := by
  have hr : rangeD 0 (m : Int) = (List.range m).map fun i : Nat => .int (0 + (i : Int)) := by unfold rangeD; simp
  have z := z_for (gl := glI inf) (c := C k) (n := 100000) (ρ := [some (false, S), some (false, .int m), some (true, lI ds), some (false, .int s), a, b, c]) (t := .nm 6) (it := .range1 (.var 1)) (b := dlf) (l := List.range m) (fun i : Nat => .int (0 + (i : Int)))
    (fun rest ρ => ∃ ds s a b c, ρ = [some (false, S), some (false, .int m), some (true, lI ds), some (false, .int s), a, b, c] ∧ Dr ds ∧ m ≤ ds.length + rest.length ∧ ds.length + rest.length ≤ 20000 ∧ 0 ≤ s ∧ s < 2147483647 ∧ ∀ i ∈ rest, i < m)
    (by
      have hb : -100000000 ≤ (m : Int) ∧ (m : Int) ≤ 100000000 := by omega
      simp only [e_non, e_bl, e_int, e_str, e_var, e_glob, e_bin, e_neg, e_cmp, e_isN, e_notN, e_chain, e_and_, e_or_, e_not_, e_ite, e_tup, e_lst, e_idx, e_sl, e_rev, e_sset, e_rng, e_call, e_callv, e_blt, e_isi, e_dis, e_dget, z_frz, z_app, z_ext, z_drop, z_set, z_setT, z_par, z_aug, z_put, z_augPut, z_ite, z_ret, z_retN, z_pass, z_brk, z_cont, z_never, z_nil, z_cons, evAnd, evOr, evF, evV, evKV, evI, evC, evP, seqF, setS, varOf, parS, augS, augI, appS, extS, putS, frzL, frzR, bindT, bindL, wipeR, kz, bz, oneI, dBin, dCmp, cLt, cLe, cGt, cGe, cEq_int, cNe_int, dIdx, dBi, bLen, bAbs, bInt, bSum, bMin, bMax, bAny, bAll, bSorted, bList, bTuple, isiD, noneB, fewD, dSl, Option.bind_some, Option.map_some, Option.bind_none, Option.map_none, isKey, keyD, zipD, intsD_map, boolsD_map, boolsD_mapf, intsD_mapf, Option.isSome_some, Nat.reduceLeDiff, Nat.zero_le, List.foldl_nil, List.length_cons, List.length_nil, List.length_map, List.map_cons, List.map_nil, List.cons_append, List.nil_append, List.replicate, List.getElem?_cons_zero, List.getElem?_cons_succ, List.set_cons_zero, List.set_cons_succ, ↓reduceIte, Bool.not_true, Bool.not_false, and_self, and_true, true_and, Bool.false_eq_true, reduceCtorEq, decide_true, decide_false, Nat.reduceAdd, Nat.reduceLT, Nat.reduceSub, Nat.reduceEqDiff, ne_eq, not_true_eq_false, not_false_eq_true, Option.some.injEq, exists_eq_left, Int.reduceNeg, beq_self_eq_true, Nat.zero_add, Nat.add_zero, hb, hr]) ⟨ds, s, a, b, c, rfl, hd, by simp, by simp; omega, h1, h2, fun i hi => List.mem_range.mp hi⟩ ?_
  · obtain ⟨ρ', e1, ds, s, a, b, c, e2, e3, e4, e5, _⟩ := z
    subst e2
    exact ⟨ds, s, a, b, c, e1, e3, by simpa using e4, by simpa using e5⟩
  · rintro q r ρ ⟨ds, s, a, b, c, rfl, hd, hl, hu, g1, g2, hi⟩
    rw [List.length_cons] at hl hu
    have hqm := hi q (List.mem_cons_self ..)
    have m1 := mul_ok2 (i := s) (j := 69621) (by omega) (by omega) (by omega) (by omega)
    have p2 : (0 : Int) < 2147483647 := by decide
    generalize hs : (s * 69621 + (0 + (q : Int)) + 1) % 2147483647 = s2
    have s2a : 0 ≤ s2 := by omega
    have s2b : s2 < 2147483647 := by omega
    by_cases hn : (ds.length : Int) < (m : Int)
    · have hl2 : ds.length < 100000 := by omega
      refine ⟨_, _, by simp only [e_non, e_bl, e_int, e_str, e_var, e_glob, e_bin, e_neg, e_cmp, e_isN, e_notN, e_chain, e_and_, e_or_, e_not_, e_ite, e_tup, e_lst, e_idx, e_sl, e_rev, e_sset, e_rng, e_call, e_callv, e_blt, e_isi, e_dis, e_dget, z_frz, z_app, z_ext, z_drop, z_set, z_setT, z_par, z_aug, z_put, z_augPut, z_ite, z_ret, z_retN, z_pass, z_brk, z_cont, z_never, z_nil, z_cons, evAnd, evOr, evF, evV, evKV, evI, evC, evP, seqF, setS, varOf, parS, augS, augI, appS, extS, putS, frzL, frzR, bindT, bindL, wipeR, kz, bz, oneI, dBin, dCmp, cLt, cLe, cGt, cGe, cEq_int, cNe_int, dIdx, dBi, bLen, bAbs, bInt, bSum, bMin, bMax, bAny, bAll, bSorted, bList, bTuple, isiD, noneB, fewD, dSl, Option.bind_some, Option.map_some, Option.bind_none, Option.map_none, isKey, keyD, zipD, intsD_map, boolsD_map, boolsD_mapf, intsD_mapf, Option.isSome_some, Nat.reduceLeDiff, Nat.zero_le, List.foldl_nil, List.length_cons, List.length_nil, List.length_map, List.map_cons, List.map_nil, List.cons_append, List.nil_append, List.replicate, List.getElem?_cons_zero, List.getElem?_cons_succ, List.set_cons_zero, List.set_cons_succ, ↓reduceIte, Bool.not_true, Bool.not_false, and_self, and_true, true_and, Bool.false_eq_true, reduceCtorEq, decide_true, decide_false, Nat.reduceAdd, Nat.reduceLT, Nat.reduceSub, Nat.reduceEqDiff, ne_eq, not_true_eq_false, not_false_eq_true, Option.some.injEq, exists_eq_left, Int.reduceNeg, beq_self_eq_true, Nat.zero_add, Nat.add_zero]; rfl, .inl (by simp only [dlf, lI, e_non, e_bl, e_int, e_str, e_var, e_glob, e_bin, e_neg, e_cmp, e_isN, e_notN, e_chain, e_and_, e_or_, e_not_, e_ite, e_tup, e_lst, e_idx, e_sl, e_rev, e_sset, e_rng, e_call, e_callv, e_blt, e_isi, e_dis, e_dget, z_frz, z_app, z_ext, z_drop, z_set, z_setT, z_par, z_aug, z_put, z_augPut, z_ite, z_ret, z_retN, z_pass, z_brk, z_cont, z_never, z_nil, z_cons, evAnd, evOr, evF, evV, evKV, evI, evC, evP, seqF, setS, varOf, parS, augS, augI, appS, extS, putS, frzL, frzR, bindT, bindL, wipeR, kz, bz, oneI, dBin, dCmp, cLt, cLe, cGt, cGe, cEq_int, cNe_int, dIdx, dBi, bLen, bAbs, bInt, bSum, bMin, bMax, bAny, bAll, bSorted, bList, bTuple, isiD, noneB, fewD, dSl, Option.bind_some, Option.map_some, Option.bind_none, Option.map_none, isKey, keyD, zipD, intsD_map, boolsD_map, boolsD_mapf, intsD_mapf, Option.isSome_some, Nat.reduceLeDiff, Nat.zero_le, List.foldl_nil, List.length_cons, List.length_nil, List.length_map, List.map_cons, List.map_nil, List.cons_append, List.nil_append, List.replicate, List.getElem?_cons_zero, List.getElem?_cons_succ, List.set_cons_zero, List.set_cons_succ, ↓reduceIte, Bool.not_true, Bool.not_false, and_self, and_true, true_and, Bool.false_eq_true, reduceCtorEq, decide_true, decide_false, Nat.reduceAdd, Nat.reduceLT, Nat.reduceSub, Nat.reduceEqDiff, ne_eq, not_true_eq_false, not_false_eq_true, Option.some.injEq, exists_eq_left, Int.reduceNeg, beq_self_eq_true, Nat.zero_add, Nat.add_zero, hn, m1, hs, p2, fd_ok, Int.reduceLT, hl2, lI_snoc]; rfl), ds ++ [s2 / 7 % 65521], s2, _, _, _, rfl, hd.snoc (by omega) (by omega), by simp; omega, by simp; omega, s2a, s2b, fun i h => hi i (List.mem_cons_of_mem _ h)⟩
    · refine ⟨_, _, by simp only [e_non, e_bl, e_int, e_str, e_var, e_glob, e_bin, e_neg, e_cmp, e_isN, e_notN, e_chain, e_and_, e_or_, e_not_, e_ite, e_tup, e_lst, e_idx, e_sl, e_rev, e_sset, e_rng, e_call, e_callv, e_blt, e_isi, e_dis, e_dget, z_frz, z_app, z_ext, z_drop, z_set, z_setT, z_par, z_aug, z_put, z_augPut, z_ite, z_ret, z_retN, z_pass, z_brk, z_cont, z_never, z_nil, z_cons, evAnd, evOr, evF, evV, evKV, evI, evC, evP, seqF, setS, varOf, parS, augS, augI, appS, extS, putS, frzL, frzR, bindT, bindL, wipeR, kz, bz, oneI, dBin, dCmp, cLt, cLe, cGt, cGe, cEq_int, cNe_int, dIdx, dBi, bLen, bAbs, bInt, bSum, bMin, bMax, bAny, bAll, bSorted, bList, bTuple, isiD, noneB, fewD, dSl, Option.bind_some, Option.map_some, Option.bind_none, Option.map_none, isKey, keyD, zipD, intsD_map, boolsD_map, boolsD_mapf, intsD_mapf, Option.isSome_some, Nat.reduceLeDiff, Nat.zero_le, List.foldl_nil, List.length_cons, List.length_nil, List.length_map, List.map_cons, List.map_nil, List.cons_append, List.nil_append, List.replicate, List.getElem?_cons_zero, List.getElem?_cons_succ, List.set_cons_zero, List.set_cons_succ, ↓reduceIte, Bool.not_true, Bool.not_false, and_self, and_true, true_and, Bool.false_eq_true, reduceCtorEq, decide_true, decide_false, Nat.reduceAdd, Nat.reduceLT, Nat.reduceSub, Nat.reduceEqDiff, ne_eq, not_true_eq_false, not_false_eq_true, Option.some.injEq, exists_eq_left, Int.reduceNeg, beq_self_eq_true, Nat.zero_add, Nat.add_zero]; rfl, .inl (by simp only [dlf, lI, e_non, e_bl, e_int, e_str, e_var, e_glob, e_bin, e_neg, e_cmp, e_isN, e_notN, e_chain, e_and_, e_or_, e_not_, e_ite, e_tup, e_lst, e_idx, e_sl, e_rev, e_sset, e_rng, e_call, e_callv, e_blt, e_isi, e_dis, e_dget, z_frz, z_app, z_ext, z_drop, z_set, z_setT, z_par, z_aug, z_put, z_augPut, z_ite, z_ret, z_retN, z_pass, z_brk, z_cont, z_never, z_nil, z_cons, evAnd, evOr, evF, evV, evKV, evI, evC, evP, seqF, setS, varOf, parS, augS, augI, appS, extS, putS, frzL, frzR, bindT, bindL, wipeR, kz, bz, oneI, dBin, dCmp, cLt, cLe, cGt, cGe, cEq_int, cNe_int, dIdx, dBi, bLen, bAbs, bInt, bSum, bMin, bMax, bAny, bAll, bSorted, bList, bTuple, isiD, noneB, fewD, dSl, Option.bind_some, Option.map_some, Option.bind_none, Option.map_none, isKey, keyD, zipD, intsD_map, boolsD_map, boolsD_mapf, intsD_mapf, Option.isSome_some, Nat.reduceLeDiff, Nat.zero_le, List.foldl_nil, List.length_cons, List.length_nil, List.length_map, List.map_cons, List.map_nil, List.cons_append, List.nil_append, List.replicate, List.getElem?_cons_zero, List.getElem?_cons_succ, List.set_cons_zero, List.set_cons_succ, ↓reduceIte, Bool.not_true, Bool.not_false, and_self, and_true, true_and, Bool.false_eq_true, reduceCtorEq, decide_true, decide_false, Nat.reduceAdd, Nat.reduceLT, Nat.reduceSub, Nat.reduceEqDiff, ne_eq, not_true_eq_false, not_false_eq_true, Option.some.injEq, exists_eq_left, Int.reduceNeg, beq_self_eq_true, Nat.zero_add, Nat.add_zero, hn]; rfl), ds, s, _, _, _, rfl, hd, by omega, by omega, g1, g2, fun i h => hi i (List.mem_cons_of_mem _ h)⟩
theorem k__law_draws : (tabOf tab).lookup ("_law_draws" : Str) = some t__law_draws.df := by rfl
theorem c__law_draws (k : Nat) (ns : List Int) (m : Nat) (hns : ns.length ≤ 63) (hm : m ≤ 10000) : ∃ ds : List Int, C (k + 1) "_law_draws" [lkD ns, .int m] = some (lI ds) ∧ Dr ds ∧ ds.length = m := by
  rw [cS k__law_draws]
  obtain ⟨ds, s, a, b, c, e1, hd, hl, h1, h2⟩ := e_dlc k (lkD ns) (.int m) ns hns rfl
  obtain ⟨ds', s', a', b', c', e2, hd', hl1, hl2⟩ := e_dlf k (lkD ns) m hm ds s a b c hd hl h1 h2
  have hb : t__law_draws.body = .cons (.set 2 (.lst .nil)) (.cons (.set 3 (.int 7)) (.cons (.for_ (.nm 4) (.over (.sl (.var 0) .no (.int 63))) dlc) (.cons (.for_ (.nm 6) (.range1 (.var 1)) dlf) (.cons (.ret (.sl (.var 2) .no (.var 1))) .nil)))) := by rfl
  have hcut : cutD (ds'.map PyData.int) none (some (m : Int)) = (ds'.take m).map .int := by
    unfold cutD
    rw [List.length_map, HT.sIx_nat, HT.sIx_none, Nat.sub_zero, List.drop_zero, List.map_take, Nat.min_eq_left hl1]
  refine ⟨ds'.take m, ?_, fun d h => hd' d (List.mem_of_mem_take h), by rw [List.length_take]; omega⟩
  have e1' := e1
  rw [show lI [] = .list [] from rfl] at e1'
  simp only [run1, Tx.df, hb]
  simp only [e_non, e_bl, e_int, e_str, e_var, e_glob, e_bin, e_neg, e_cmp, e_isN, e_notN, e_chain, e_and_, e_or_, e_not_, e_ite, e_tup, e_lst, e_idx, e_sl, e_rev, e_sset, e_rng, e_call, e_callv, e_blt, e_isi, e_dis, e_dget, z_frz, z_app, z_ext, z_drop, z_set, z_setT, z_par, z_aug, z_put, z_augPut, z_ite, z_ret, z_retN, z_pass, z_brk, z_cont, z_never, z_nil, z_cons, evAnd, evOr, evF, evV, evKV, evI, evC, evP, seqF, setS, varOf, parS, augS, augI, appS, extS, putS, frzL, frzR, bindT, bindL, wipeR, kz, bz, oneI, dBin, dCmp, cLt, cLe, cGt, cGe, cEq_int, cNe_int, dIdx, dBi, bLen, bAbs, bInt, bSum, bMin, bMax, bAny, bAll, bSorted, bList, bTuple, isiD, noneB, fewD, dSl, Option.bind_some, Option.map_some, Option.bind_none, Option.map_none, isKey, keyD, zipD, intsD_map, boolsD_map, boolsD_mapf, intsD_mapf, Option.isSome_some, Nat.reduceLeDiff, Nat.zero_le, List.foldl_nil, List.length_cons, List.length_nil, List.length_map, List.map_cons, List.map_nil, List.cons_append, List.nil_append, List.replicate, List.getElem?_cons_zero, List.getElem?_cons_succ, List.set_cons_zero, List.set_cons_succ, ↓reduceIte, Bool.not_true, Bool.not_false, and_self, and_true, true_and, Bool.false_eq_true, reduceCtorEq, decide_true, decide_false, Nat.reduceAdd, Nat.reduceLT, Nat.reduceSub, Nat.reduceEqDiff, ne_eq, not_true_eq_false, not_false_eq_true, Option.some.injEq, exists_eq_left, Int.reduceNeg, beq_self_eq_true, Nat.zero_add, Nat.add_zero, t__law_draws, e1', e2]
  simp only [lI, e_non, e_bl, e_int, e_str, e_var, e_glob, e_bin, e_neg, e_cmp, e_isN, e_notN, e_chain, e_and_, e_or_, e_not_, e_ite, e_tup, e_lst, e_idx, e_sl, e_rev, e_sset, e_rng, e_call, e_callv, e_blt, e_isi, e_dis, e_dget, z_frz, z_app, z_ext, z_drop, z_set, z_setT, z_par, z_aug, z_put, z_augPut, z_ite, z_ret, z_retN, z_pass, z_brk, z_cont, z_never, z_nil, z_cons, evAnd, evOr, evF, evV, evKV, evI, evC, evP, seqF, setS, varOf, parS, augS, augI, appS, extS, putS, frzL, frzR, bindT, bindL, wipeR, kz, bz, oneI, dBin, dCmp, cLt, cLe, cGt, cGe, cEq_int, cNe_int, dIdx, dBi, bLen, bAbs, bInt, bSum, bMin, bMax, bAny, bAll, bSorted, bList, bTuple, isiD, noneB, fewD, dSl, Option.bind_some, Option.map_some, Option.bind_none, Option.map_none, isKey, keyD, zipD, intsD_map, boolsD_map, boolsD_mapf, intsD_mapf, Option.isSome_some, Nat.reduceLeDiff, Nat.zero_le, List.foldl_nil, List.length_cons, List.length_nil, List.length_map, List.map_cons, List.map_nil, List.cons_append, List.nil_append, List.replicate, List.getElem?_cons_zero, List.getElem?_cons_succ, List.set_cons_zero, List.set_cons_succ, ↓reduceIte, Bool.not_true, Bool.not_false, and_self, and_true, true_and, Bool.false_eq_true, reduceCtorEq, decide_true, decide_false, Nat.reduceAdd, Nat.reduceLT, Nat.reduceSub, Nat.reduceEqDiff, ne_eq, not_true_eq_false, not_false_eq_true, Option.some.injEq, exists_eq_left, Int.reduceNeg, beq_self_eq_true, Nat.zero_add, Nat.add_zero, hcut]
end Bw.K3

namespace Bw.K3
open PySem
/-! powers -/
def pws (b : Int) (n : Nat) : List Int := (List.range n).map (powI b)
theorem pws_succ (b : Int) (n : Nat) : pws b (n + 1) = pws b n ++ [powI b n] := by unfold pws; rw [List.range_succ, List.map_append]; rfl
theorem pws_len (b : Int) (n : Nat) : (pws b n).length = n := by unfold pws; rw [List.length_map, List.length_range]
theorem sum_snoc (l : List Int) (x : Int) : (l ++ [x]).sum = l.sum + x := by
  induction l with
  | nil => simp
  | cons a l ih => simp only [List.cons_append, List.sum_cons, ih]; omega
theorem pws_sum (p : Int) (hp : p = 1 ∨ p = 2) : ∀ s : Nat, p * (pws (p + 1) s).sum + 1 = powI (p + 1) s
  | 0 => by simp [pws, powI]
  | s + 1 => by
    have ih := pws_sum p hp s
    rw [pws_succ, sum_snoc, powI, Int.mul_add, Int.mul_add]
    rcases hp with hp | hp <;> subst hp <;> omega
theorem pw_pos (p : Int) (hp : p = 1 ∨ p = 2) : ∀ s : Nat, 1 ≤ powI (p + 1) s
  | 0 => by simp [powI]
  | s + 1 => by
    have ih := pw_pos p hp s
    rw [powI]
    rcases hp with hp | hp <;> subst hp <;> omega
theorem cnt_pws (p : Int) (hp : p = 1 ∨ p = 2) : ∀ (s : Nat) (x : Int), cnt (pws (p + 1) s) p x = if (if p = 1 then 0 else -(pws (p + 1) s).sum) ≤ x ∧ x ≤ (pws (p + 1) s).sum then 1 else 0
  | 0, x => by
    simp only [pws, List.range_zero, List.map_nil, cnt, List.sum_nil]
    rcases hp with hp | hp <;> subst hp
    · by_cases h : x = 0
      · simp [h]
      · rw [if_neg h, if_neg]; simp; omega
    · by_cases h : x = 0
      · simp [h]
      · rw [if_neg h, if_neg]; simp; omega
  | s + 1, x => by
    have hs := pws_sum p hp s
    have hpos := pw_pos p hp s
    have h1 := cnt_pws p hp s x
    have h2 := cnt_pws p hp s (x - powI (p + 1) s)
    have h3 := cnt_pws p hp s (x + powI (p + 1) s)
    rw [pws_succ, cnt_snoc, sum_snoc, h1, h2, h3]
    generalize (pws (p + 1) s).sum = S at *
    generalize powI (p + 1) s = w at *
    rcases hp with hp | hp
    · subst hp
      simp only [if_true]
      split <;> split <;> split <;> omega
    · subst hp
      simp only [show ¬ ((2 : Int) = 1) by decide, if_false]
      split <;> split <;> split <;> split <;> omega
theorem pw_mono (p : Int) (hp : p = 1 ∨ p = 2) (s : Nat) : powI (p + 1) s < powI (p + 1) (s + 1) := by
  have := pw_pos p hp s
  rw [powI]
  rcases hp with hp | hp <;> subst hp <;> omega
theorem pw_lt (p : Int) (hp : p = 1 ∨ p = 2) : ∀ (m i : Nat), powI (p + 1) i < powI (p + 1) (i + m + 1)
  | 0, i => pw_mono p hp i
  | m + 1, i => Int.lt_trans (pw_lt p hp m i) (pw_mono p hp (i + m + 1))
theorem pw_le6 (p : Int) (hp : p = 1 ∨ p = 2) : ∀ i : Nat, i ≤ 8 → powI (p + 1) i ≤ 6561 := fun i hi => by
  have : i = 0 ∨ i = 1 ∨ i = 2 ∨ i = 3 ∨ i = 4 ∨ i = 5 ∨ i = 6 ∨ i = 7 ∨ i = 8 := by omega
  rcases hp with hp | hp <;> subst hp <;> rcases this with h | h | h | h | h | h | h | h | h <;> subst h <;> simp [powI]
theorem pws_asc (p : Int) (hp : p = 1 ∨ p = 2) : ∀ n : Nat, (pws (p + 1) n).Pairwise (· < ·)
  | 0 => by simp [pws]
  | n + 1 => by
    rw [pws_succ, List.pairwise_append]
    refine ⟨pws_asc p hp n, by simp, fun a ha b hb => ?_⟩
    simp at hb
    subst hb
    unfold pws at ha
    obtain ⟨i, hi, rfl⟩ := List.mem_map.mp ha
    have hi := List.mem_range.mp hi
    have := pw_lt p hp (n - i - 1) i
    rwa [show i + (n - i - 1) + 1 = n by omega] at this
theorem pws_wk (p : Int) (hp : p = 1 ∨ p = 2) (n : Nat) (h1 : 1 ≤ n) (h2 : n ≤ 6) : Wk8 (pws (p + 1) n) where
  asc := pws_asc p hp n
  rng := fun w hw => by
    unfold pws at hw
    obtain ⟨i, hi, rfl⟩ := List.mem_map.mp hw
    have hi := List.mem_range.mp hi
    have := pw_pos p hp i
    have := pw_le6 p hp i (by omega)
    omega
  len := by rw [pws_len]; omega
  l8 := by rw [pws_len]; omega
theorem pws_bd (p : Int) (hp : p = 1 ∨ p = 2) (n : Nat) (h1 : 1 ≤ n) (h2 : n ≤ 6) : 1 ≤ (pws (p + 1) n).sum ∧ (pws (p + 1) n).sum ≤ 6561 := by
  have a := pws_sum p hp n
  have b := pw_le6 p hp n (by omega)
  have c := pw_mono p hp (n - 1)
  rw [show n - 1 + 1 = n by omega] at c
  have d := pw_pos p hp (n - 1)
  rcases hp with hp | hp <;> subst hp <;> omega
theorem wbl_pws (p : Int) (hp : p = 1 ∨ p = 2) (n : Nat) : wbl (pws (p + 1) n) p = (List.range ((pws (p + 1) n).sum).toNat).map fun i : Nat => 1 + (i : Int) := by
  refine asc_ext (wbl_asc _ _) ?_ fun k => ?_
  · rw [List.pairwise_map]
    exact List.pairwise_lt_range.imp fun h => by omega
  · rw [wbl_mem, cnt_pws p hp, List.mem_map]
    constructor
    · rintro ⟨h1, h2⟩
      by_cases c : k ≤ (pws (p + 1) n).sum
      · exact ⟨(k - 1).toNat, List.mem_range.mpr (by omega), by omega⟩
      · rw [if_neg (fun z => c z.2)] at h2
        omega
    · rintro ⟨i, hi, rfl⟩
      have hi := List.mem_range.mp hi
      refine ⟨by omega, ?_⟩
      rw [if_pos]
      · omega
      · split <;> omega
theorem pws_get (p : Int) (hp : p = 1 ∨ p = 2) (n : Nat) (x : Int) (h1 : 1 ≤ x) : getI (countsL (pws (p + 1) n) p) x = if x ≤ (pws (p + 1) n).sum then some 1 else none := by
  have e := cnt_pws p hp n x
  rw [(counts_good p _).eq]
  by_cases h : x ≤ (pws (p + 1) n).sum
  · rw [if_pos ⟨by split <;> omega, h⟩] at e
    rw [e, if_pos h]; rfl
  · rw [if_neg (fun z => h z.2)] at e
    rw [e, if_neg h]; rfl
/-! small things of the law -/
theorem cnt0_pos (p : Int) : ∀ ws : List Int, 0 < cnt ws p 0
  | [] => by simp [cnt]
  | w :: ws => by
    have h := cnt0_pos p ws
    have h1 := cnt_nn ws p (0 - w)
    have h2 := cnt_nn ws p (0 + w)
    unfold cnt
    split <;> omega
theorem cntw_pos (p : Int) : ∀ (ws : List Int) (w : Int), w ∈ ws → 0 < cnt ws p w
  | [], w, h => by simp at h
  | v :: ws, w, h => by
    have h1 := cnt_nn ws p (w - v)
    have h2 := cnt_nn ws p (w + v)
    have h3 := cnt_nn ws p w
    rcases List.mem_cons.mp h with e | e
    · subst e
      have := cnt0_pos p ws
      unfold cnt
      rw [Int.sub_self] at h1 ⊢
      split <;> omega
    · have := cntw_pos p ws w e
      unfold cnt
      split <;> omega
theorem wbl_bd {ws : List Int} {p a : Int} {B : Int} (hw : ∀ w ∈ ws, 1 ≤ w ∧ w ≤ B) (h : a ∈ wbl ws p) : 1 ≤ a ∧ a ≤ B * ws.length := by
  obtain ⟨h1, h2⟩ := wbl_mem.mp h
  have tb := tot_bound ws hw
  have := cnt_bound p ws a (fun w hw' => by have := hw w hw'; omega) (by omega)
  omega
theorem fv_cnt (ws : List Int) (p x : Int) : (getI (countsL ws p) x).getD 0 = cnt ws p x := (counts_good p ws).fv x
theorem look0 (ws : List Int) (p x : Int) : (lookD (kvI .int (countsL ws p)) (.int x)).getD (.int 0) = .int (cnt ws p x) := by
  rw [lookD_int, ← fv_cnt]
  cases getI (countsL ws p) x <;> rfl
theorem look1 (ws : List Int) (p x : Int) (h : 0 < cnt ws p x) : lookD (kvI .int (countsL ws p)) (.int x) = some (.int (cnt ws p x)) := by
  rw [lookD_int, (counts_good p ws).eq, if_neg (by omega)]; rfl
theorem ssetI_len (ns : List Int) : (ssetI ns).length ≤ ns.length := by
  unfold ssetI
  rw [List.length_mergeSort]
  have : ∀ (l acc : List Int), (List.eraseDupsBy.loop (fun a b => a == b) l acc).length ≤ l.length + acc.length := by
    intro l
    induction l with
    | nil => intro acc; show acc.reverse.length ≤ _; simp
    | cons x l ih =>
      intro acc
      rw [List.eraseDupsBy.loop]
      split
      · have := ih acc; simp; omega
      · have := ih (x :: acc); simp at this ⊢; omega
  have := this ns []
  rw [List.length_nil, Nat.add_zero] at this
  exact this
theorem wk_sset (ns : List Int) (h1 : ns ≠ []) (h2 : ns.length ≤ 8) (h3 : ∀ n ∈ ns, 1 ≤ n ∧ n ≤ 10000) : Wk8 (ssetI ns) where
  asc := ssetI_asc ns
  rng := fun w hw => h3 w (ssetI_mem.mp hw)
  len := by
    have := ssetI_len ns
    refine ⟨?_, by omega⟩
    cases hs : ssetI ns with
    | nil =>
      cases ns with
      | nil => exact absurd rfl h1
      | cons x ns =>
        have := ssetI_mem.mpr (List.mem_cons_self (a := x) (l := ns))
        rw [hs] at this
        cases this
    | cons _ _ => simp
  l8 := by have := ssetI_len ns; omega
theorem sum_sumF (F : Int → Int) : ∀ l : List Int, (l.map F).sum = sumF F l
  | [] => rfl
  | x :: l => by rw [List.map_cons, List.sum_cons, sumF, sum_sumF F l]
theorem any_false {α : Type} (l : List α) : ((l.map fun _ => false).any id) = false := by
  induction l with
  | nil => rfl
  | cons x l ih => simpa using ih
theorem notin_int (x : Int) (l : List Int) : cNotIn (.int x) (tpI l) = some (!decide (x ∈ l)) := by
  unfold cNotIn tpI
  have hf : (l.map PyData.int).all flatD = true := by
    rw [List.all_map, List.all_eq_true]; intro y hy; rfl
  refine (if_pos ⟨rfl, hf⟩).trans ?_
  have : ((l.map PyData.int).any fun y => PyData.eqv y (.int x)) = decide (x ∈ l) := by
    rw [List.any_map]
    induction l with
    | nil => simp
    | cons y l ih =>
      have hf' : (l.map PyData.int).all flatD = true := by rw [List.all_map, List.all_eq_true]; intro y hy; rfl
      have ih' := ih hf'
      rw [List.any_cons, ih']
      simp only [Function.comp, PyData.eqv]
      by_cases h : y = x
      · subst h; simp
      · simp [h, fun z => h (Eq.symm z)]
        have e1 : (y == x) = false := by simpa using h
        have e2 : decide (x = y) = false := by simpa using fun z => h (Eq.symm z)
        by_cases h2 : x ∈ l <;> simp [h2, e1, e2]
  rw [this]
theorem cut20 (l : List Int) : cutD (l.map PyData.int) none (some 20) = (l.take 20).map .int := by
  unfold cutD
  rw [List.length_map, show ((20 : Int)) = ((20 : Nat) : Int) from rfl, HT.sIx_nat, HT.sIx_none, Nat.sub_zero, List.drop_zero, List.map_take]
  rw [← List.map_take, ← List.map_take]
  congr 1
  rw [Nat.min_def]
  split
  · rfl
  · rw [List.take_of_length_le (Nat.le_refl _), List.take_of_length_le (by omega)]
end Bw.K3

namespace Bw.K3
open PySem
def dv (ds : List Int) (e : Int) : Int := (ds[e.toNat]?).getD 0
theorem at_draw (ds : List Int) (hl : ds.length = 200) (e : Int) (h1 : 0 ≤ e) (h2 : e < 200) : L2.atI (ds.map PyData.int) e = some (.int (dv ds e)) := by
  have := atI_nat (ds.map PyData.int) e.toNat (by rw [List.length_map]; omega)
  rw [show ((e.toNat : Nat) : Int) = e by omega] at this
  rw [this, List.getElem?_map]
  unfold dv
  rw [List.getElem?_eq_getElem (by omega)]; rfl
theorem dv_nn {ds : List Int} (hd : Dr ds) (e : Int) : 0 ≤ dv ds e ∧ dv ds e < 65521 := by
  unfold dv
  cases h : ds[e.toNat]? with
  | none => simp
  | some d => simp; exact hd d (List.mem_of_getElem? h)
def rawW (ds : List Int) (tn m : Int) : List Int := ssetI ((List.range m.toNat).map fun j : Nat => 1 + dv ds (20 + 8 * tn + (0 + (j : Int))) % 40)
theorem wbl_len (ws : List Int) (p : Int) (hw : Wk8 ws) : (wbl ws p).length ≤ 6561 := by
  unfold wbl srt
  rw [List.length_mergeSort]
  have := counts_len (p := p) hw.l8
  have h2 := List.length_filter_le (fun k => decide (0 < k)) ((countsL ws p).map (·.1))
  rw [List.length_map] at h2
  omega
theorem wk_heavy {ws : List Int} {t : Int} (hw : Wk8 ws) (h40 : ∀ w ∈ ws, w ≤ 40) (ht2 : 2 ≤ t ∧ t ≤ 6) : Wk8 (ws.map (t * ·)) where
  asc := by
    rw [List.pairwise_map]
    exact hw.asc.imp fun h => Int.mul_lt_mul_of_pos_left h (by omega)
  rng := fun w h => by
    obtain ⟨x, hx, rfl⟩ := List.mem_map.mp h
    have h1 := h40 x hx
    have h2 := (hw.rng x hx).1
    have : t = 2 ∨ t = 3 ∨ t = 4 ∨ t = 5 ∨ t = 6 := by omega
    rcases this with h | h | h | h | h <;> subst h <;> omega
  len := by rw [List.length_map]; exact hw.len
  l8 := by rw [List.length_map]; exact hw.l8
theorem ta_bd {t a : Int} {n : Nat} (ht2 : 2 ≤ t ∧ t ≤ 6) (hb : 1 ≤ a ∧ a ≤ 40 * (n : Int)) (h6 : n ≤ 6) : 1 ≤ t * a ∧ t * a ≤ 2000 := by
  have : t = 2 ∨ t = 3 ∨ t = 4 ∨ t = 5 ∨ t = 6 := by omega
  rcases this with h | h | h | h | h <;> subst h <;> omega
theorem cnt_off (p : Int) {t : Int} (ht2 : 2 ≤ t ∧ t ≤ 6) {ws : List Int} {a : Int} : cnt (ws.map (t * ·)) p (t * a + 1) = 0 := by
  refine Classical.byContradiction fun h => ?_
  obtain ⟨x, hx⟩ := cnt_dvd p t ws _ h
  have : t = 2 ∨ t = 3 ∨ t = 4 ∨ t = 5 ∨ t = 6 := by omega
  rcases this with h | h | h | h | h <;> subst h <;> omega
theorem wbl_pos {ws : List Int} (hw : Wk8 ws) (p : Int) : 0 < (wbl ws p).length := by
  cases hs : ws with
  | nil => have := hw.len; rw [hs] at this; simp at this
  | cons w r =>
    have hm : w ∈ ws := by rw [hs]; exact List.mem_cons_self ..
    have := wbl_mem.mpr ⟨by have := hw.rng w hm; omega, cntw_pos p ws w hm⟩
    rw [hs] at this
    exact List.length_pos_of_mem this
def amt (ds : List Int) (tn : Int) (ws : List Int) (p : Int) : Int := ((wbl ws p)[(dv ds (80 + tn) % ((wbl ws p).length : Int)).toNat]?).getD 0
theorem amt_get (ds : List Int) (tn : Int) (ws : List Int) (p : Int) (hp : 0 < (wbl ws p).length) (hd : 0 ≤ dv ds (80 + tn)) : ∃ h : (dv ds (80 + tn) % ((wbl ws p).length : Int)).toNat < (wbl ws p).length, amt ds tn ws p = (wbl ws p)[(dv ds (80 + tn) % ((wbl ws p).length : Int)).toNat] := by
  have h1 : 0 ≤ dv ds (80 + tn) % ((wbl ws p).length : Int) := Int.emod_nonneg _ (by omega)
  have h2 : dv ds (80 + tn) % ((wbl ws p).length : Int) < ((wbl ws p).length : Int) := Int.emod_lt_of_pos _ (by omega)
  refine ⟨by omega, ?_⟩
  unfold amt
  rw [List.getElem?_eq_getElem (by omega)]; rfl
theorem at_amt (ds : List Int) (tn : Int) (ws : List Int) (p : Int) (hp : 0 < (wbl ws p).length) (hd : 0 ≤ dv ds (80 + tn)) : L2.atI ((wbl ws p).map PyData.int) (dv ds (80 + tn) % ((wbl ws p).length : Int)) = some (.int (amt ds tn ws p)) := by
  obtain ⟨h, e⟩ := amt_get ds tn ws p hp hd
  have h1 : 0 ≤ dv ds (80 + tn) % ((wbl ws p).length : Int) := Int.emod_nonneg _ (by omega)
  have := atI_nat ((wbl ws p).map PyData.int) (dv ds (80 + tn) % ((wbl ws p).length : Int)).toNat (by rw [List.length_map]; exact h)
  rw [show (((dv ds (80 + tn) % ((wbl ws p).length : Int)).toNat : Nat) : Int) = dv ds (80 + tn) % ((wbl ws p).length : Int) by omega] at this
  rw [this, List.getElem?_map, List.getElem?_eq_getElem h, e]; rfl
theorem sumF_nn (ws : List Int) (p : Int) : ∀ l : List Int, 0 ≤ sumF (cnt ws p) l
  | [] => by simp [sumF]
  | x :: l => by
    have := sumF_nn ws p l
    have := cnt_nn ws p x
    rw [sumF]; omega
theorem tot2 (ws : List Int) (p : Int) (hw : Wk8 ws) (h40 : ∀ w ∈ ws, w ≤ 40) (h6 : ws.length ≤ 6) (hp : p = 1 ∨ p = 2) : -400000 ≤ sumF (cnt ws p) (wbl ws p) ∧ sumF (cnt ws p) (wbl ws p) ≤ 400000 := by
  have tp := total_pos (ws := ws) (p := p) (fun w h => by have := hw.rng w h; omega) hp
  have a := sumF_nn ws p (wbl ws p)
  have b := pw_le6 p hp ws.length (by omega)
  have c := cnt_nn ws p 0
  split at tp <;> omega
def q0 : Sm := (.setT (.tp 2 (.cons (.nm 3) (.cons (.nm 4) .nil))) (.tup (.cons (.bin .add (.int 1) (.bin .mod (.blt .int (.cons (.idx (.var 1) (.var 2)) .nil)) (.int 6))) (.cons (.bin .add (.int 1) (.bin .mod (.blt .int (.cons (.idx (.var 1) (.bin .add (.int 10) (.var 2))) .nil)) (.int 2))) .nil))))
def q1 : Sm := (.set 5 (.blt .tuple (.cons (.sset (.comp (.bin .add (.int 1) (.bin .mod (.blt .int (.cons (.idx (.var 1) (.bin .add (.bin .add (.int 20) (.bin .mul (.int 8) (.var 2))) (.var 21))) .nil)) (.int 40))) (.nm 21) (.range1 (.var 3)) .no [("k", 21)])) .nil)))
def q2 : Sm := (.set 6 (.call "_law_ways" (.cons (.var 5) (.cons (.var 4) .nil))))
def q3 : Sm := (.ite (.cmp .ne (.call "weighable" (.cons (.var 5) (.cons (.var 4) .nil))) (.blt .tuple (.cons (.blt .sorted (.cons (.comp (.var 7) (.nm 7) (.over (.var 6)) (.cmp .gt (.var 7) (.int 0)) [("total", 7)]) .nil)) .nil))) (.cons (.ret (.bl false))
  .nil) .nil)
def q4 : Sm := (.set 7 (.blt .sum (.cons (.comp (.call "ways_to" (.cons (.var 5) (.cons (.var 4) (.cons (.var 12) .nil)))) (.nm 12) (.over (.call "weighable" (.cons (.var 5) (.cons (.var 4) .nil)))) .no [("amount", 12)]) .nil)))
def q5 : Sm := (.set 8 (.int 1))
def q6 : Sm := (.for_ (.nm 9) (.over (.var 5)) (.cons (.set 8 (.bin .mul (.var 8) (.bin .add (.var 4) (.int 1))))
  (.cons (.frz [8])
  .nil)))
def q7 : Sm := (.ite (.or_ (.cons (.cmp .ne (.ite (.cmp .eq (.var 4) (.int 1)) (.var 7) (.bin .mul (.int 2) (.var 7))) (.bin .sub (.var 8) (.idx (.var 6) (.int 0)))) (.cons (.blt .any (.cons (.comp (.cmp .ne (.call "ways_to" (.cons (.var 5) (.cons (.var 4) (.cons (.var 12) .nil)))) (.idx (.var 6) (.var 12))) (.nm 12) (.over (.sl (.blt .list (.cons (.call "weighable" (.cons (.var 5) (.cons (.var 4) .nil))) .nil)) .no (.int 20))) .no [("amount", 12)]) .nil)) .nil))) (.cons (.ret (.bl false))
  .nil) .nil)
def q8 : Sm := (.set 10 (.bin .add (.int 2) (.bin .mod (.blt .int (.cons (.idx (.var 1) (.bin .add (.int 70) (.var 2))) .nil)) (.int 5))))
def q9 : Sm := (.frz [10])
def q10 : Sm := (.set 11 (.blt .tuple (.cons (.comp (.bin .mul (.var 10) (.var 9)) (.nm 9) (.over (.var 5)) .no [("weight", 9)]) .nil)))
def q11 : Sm := (.ite (.cmp .ne (.call "weighable" (.cons (.var 11) (.cons (.var 4) .nil))) (.blt .tuple (.cons (.comp (.bin .mul (.var 10) (.var 12)) (.nm 12) (.over (.call "weighable" (.cons (.var 5) (.cons (.var 4) .nil)))) .no [("amount", 12)]) .nil))) (.cons (.ret (.bl false))
  .nil) .nil)
def q12 : Sm := (.set 12 (.idx (.call "weighable" (.cons (.var 5) (.cons (.var 4) .nil))) (.bin .mod (.blt .int (.cons (.idx (.var 1) (.bin .add (.int 80) (.var 2))) .nil)) (.blt .len (.cons (.call "weighable" (.cons (.var 5) (.cons (.var 4) .nil))) .nil)))))
def q13 : Sm := (.ite (.or_ (.cons (.cmp .ne (.call "ways_to" (.cons (.var 11) (.cons (.var 4) (.cons (.bin .mul (.var 10) (.var 12)) .nil)))) (.call "ways_to" (.cons (.var 5) (.cons (.var 4) (.cons (.var 12) .nil))))) (.cons (.cmp .ne (.call "first_way" (.cons (.var 11) (.cons (.var 4) (.cons (.bin .mul (.var 10) (.var 12)) .nil)))) (.call "first_way" (.cons (.var 5) (.cons (.var 4) (.cons (.var 12) .nil))))) .nil))) (.cons (.ret (.bl false))
  .nil) .nil)
def q14 : Sm := (.set 13 (.call "fewest_used" (.cons (.var 5) (.cons (.var 4) (.cons (.var 12) .nil)))))
def q15 : Sm := (.ite (.or_ (.cons (.cmp .ne (.call "ways_to" (.cons (.var 11) (.cons (.var 4) (.cons (.bin .add (.bin .mul (.var 10) (.var 12)) (.int 1)) .nil)))) (.int 0)) (.cons (.cmp .ne (.call "fewest_used" (.cons (.var 11) (.cons (.var 4) (.cons (.bin .mul (.var 10) (.var 12)) .nil)))) (.var 13)) (.cons (.notN (.call "way_fault" (.cons (.var 5) (.cons (.var 4) (.cons (.var 12) (.cons (.var 13) .nil)))))) .nil)))) (.cons (.ret (.bl false))
  .nil) .nil)
def q16 : Sm := (.set 14 (.call "weighable" (.cons (.var 5) (.cons (.int 2) .nil))))
def q17 : Sm := (.ite (.or_ (.cons (.blt .any (.cons (.comp (.cmp .notin (.var 23) (.var 14)) (.nm 23) (.over (.call "weighable" (.cons (.var 5) (.cons (.int 1) .nil)))) .no [("one", 23)]) .nil)) (.cons (.cmp .gt (.call "gap" (.cons (.var 5) (.cons (.int 1) .nil))) (.call "gap" (.cons (.var 5) (.cons (.int 2) .nil)))) .nil))) (.cons (.ret (.bl false))
  .nil) .nil)
def q18 : Sm := (.set 15 (.bin .add (.bin .add (.idx (.var 5) (.neg (.int 1))) (.int 1)) (.bin .mod (.blt .int (.cons (.idx (.var 1) (.bin .add (.int 90) (.var 2))) .nil)) (.int 30))))
def q19 : Sm := (.frz [15])
def q20 : Sm := (.set 16 (.bin .add (.var 5) (.tup (.cons (.var 15) .nil))))
def q21 : Sm := (.frz [16])
def q22 : Sm := (.for_ (.nm 17) (.over (.tup (.cons (.var 12) (.cons (.var 15) (.cons (.bin .add (.var 12) (.var 15)) .nil))))) (.cons (.set 18 (.bin .add (.bin .add (.dget (.var 6) (.var 17) (.int 0)) (.dget (.var 6) (.bin .sub (.var 17) (.var 15)) (.int 0))) (.ite (.cmp .eq (.var 4) (.int 2)) (.dget (.var 6) (.bin .add (.var 17) (.var 15)) (.int 0)) (.int 0))))
  (.cons (.frz [18])
  (.cons (.ite (.cmp .ne (.call "ways_to" (.cons (.var 16) (.cons (.var 4) (.cons (.var 17) .nil)))) (.var 18)) (.cons (.ret (.bl false))
  .nil) .nil)
  .nil))))
def q23 : Sm := (.set 19 (.bin .add (.int 1) (.bin .mod (.blt .int (.cons (.idx (.var 1) (.bin .add (.int 100) (.var 2))) .nil)) (.int 6))))
def q24 : Sm := (.frz [19])
def q25 : Sm := (.set 20 (.lst (.cons (.int 1) .nil)))
def q26 : Sm := (.for_ (.nm 21) (.range1 (.bin .sub (.var 19) (.int 1))) (.cons (.app 20 (.bin .mul (.idx (.var 20) (.neg (.int 1))) (.bin .add (.var 4) (.int 1))))
  .nil))
def q27 : Sm := (.set 22 (.blt .sum (.cons (.var 20) .nil)))
def q28 : Sm := (.ite (.or_ (.cons (.cmp .ne (.call "weighable" (.cons (.blt .tuple (.cons (.var 20) .nil)) (.cons (.var 4) .nil))) (.rng true (.int 1) (.bin .add (.var 22) (.int 1)))) (.cons (.cmp .ne (.call "gap" (.cons (.blt .tuple (.cons (.var 20) .nil)) (.cons (.var 4) .nil))) (.bin .add (.var 22) (.int 1))) (.cons (.not_ (.call "is_enough" (.cons (.blt .tuple (.cons (.var 20) .nil)) (.cons (.var 4) (.cons (.blt .min (.cons (.var 22) (.cons (.int 1000) .nil))) .nil))))) .nil)))) (.cons (.ret (.bl false))
  .nil) .nil)
def q29 : Sm := (.ite (.blt .any (.cons (.comp (.cmp .ne (.call "ways_to" (.cons (.blt .tuple (.cons (.var 20) .nil)) (.cons (.var 4) (.cons (.var 23) .nil)))) (.int 1)) (.nm 23) (.over (.tup (.cons (.int 1) (.cons (.var 22) (.cons (.bin .add (.int 1) (.bin .mod (.blt .int (.cons (.idx (.var 1) (.bin .add (.int 110) (.var 2))) .nil)) (.var 22))) .nil))))) .no [("one", 23)]) .nil)) (.cons (.ret (.bl false))
  .nil) .nil)
def turnB : Sm := (.cons q0 (.cons q1 (.cons q2 (.cons q3 (.cons q4 (.cons q5 (.cons q6 (.cons q7 (.cons q8 (.cons q9 (.cons q10 (.cons q11 (.cons q12 (.cons q13 (.cons q14 (.cons q15 (.cons q16 (.cons q17 (.cons q18 (.cons q19 (.cons q20 (.cons q21 (.cons q22 (.cons q23 (.cons q24 (.cons q25 (.cons q26 (.cons q27 (.cons q28 (.cons q29 .nil))))))))))))))))))))))))))))))
theorem s0 (k : Nat) (x0 x3 x4 x5 x6 x7 x8 x9 x10 x11 x12 x13 x14 x15 x16 x17 x18 x19 x20 x21 x22 x23 : Option (Bool × PyData)) (ds : List Int) (tn : Int) (hd : Dr ds) (hl : ds.length = 200) (ht : 0 ≤ tn ∧ tn < 5) : evS (glI inf) (C (k + 20)) 100000 q0 [x0, some (false, lI ds), some (false, .int tn), x3, x4, x5, x6, x7, x8, x9, x10, x11, x12, x13, x14, x15, x16, x17, x18, x19, x20, x21, x22, x23] =
    some (.nx [x0, some (false, lI ds), some (false, .int tn), some (false, .int (1 + dv ds tn % 6)), some (false, .int (1 + dv ds (10 + tn) % 2)), x5, x6, x7, x8, x9, x10, x11, x12, x13, x14, x15, x16, x17, x18, x19, x20, x21, x22, x23]) := by
  have a1 := at_draw ds hl tn (by omega) (by omega)
  have a2 := at_draw ds hl (10 + tn) (by omega) (by omega)
  simp only [lI, q0, e_non, e_bl, e_int, e_str, e_var, e_glob, e_bin, e_neg, e_cmp, e_isN, e_notN, e_chain, e_and_, e_or_, e_not_, e_ite, e_tup, e_lst, e_idx, e_sl, e_rev, e_sset, e_rng, e_call, e_callv, e_blt, e_isi, e_dis, e_dget, z_frz, z_app, z_ext, z_drop, z_set, z_setT, z_par, z_aug, z_put, z_augPut, z_ite, z_ret, z_retN, z_pass, z_brk, z_cont, z_never, z_nil, z_cons, evAnd, evOr, evF, evV, evKV, evI, evC, evP, seqF, setS, varOf, parS, augS, augI, appS, extS, putS, frzL, frzR, bindT, bindL, wipeR, kz, bz, oneI, dBin, dCmp, cLt, cLe, cGt, cGe, cEq_int, cNe_int, dIdx, dBi, bLen, bAbs, bInt, bSum, bMin, bMax, bAny, bAll, bSorted, bList, bTuple, isiD, noneB, fewD, dSl, Option.bind_some, Option.map_some, Option.bind_none, Option.map_none, isKey, keyD, zipD, intsD_map, boolsD_map, boolsD_mapf, intsD_mapf, Option.isSome_some, Nat.reduceLeDiff, Nat.zero_le, List.foldl_nil, List.length_cons, List.length_nil, List.length_map, List.map_cons, List.map_nil, List.cons_append, List.nil_append, List.replicate, List.getElem?_cons_zero, List.getElem?_cons_succ, List.set_cons_zero, List.set_cons_succ, ↓reduceIte, Bool.not_true, Bool.not_false, and_self, and_true, true_and, Bool.false_eq_true, reduceCtorEq, decide_true, decide_false, Nat.reduceAdd, Nat.reduceLT, Nat.reduceSub, Nat.reduceEqDiff, ne_eq, not_true_eq_false, not_false_eq_true, Option.some.injEq, exists_eq_left, Int.reduceNeg, beq_self_eq_true, Nat.zero_add, Nat.add_zero, a1, a2, Int.reduceLT]
theorem s1 (k : Nat) (x0 x4 x5 x6 x7 x8 x9 x10 x11 x12 x13 x14 x15 x16 x17 x18 x19 x20 x21 x22 x23 : Option (Bool × PyData)) (ds : List Int) (tn : Int) (hd : Dr ds) (hl : ds.length = 200) (ht : 0 ≤ tn ∧ tn < 5) (m : Int) (hm : 1 ≤ m ∧ m ≤ 6) : evS (glI inf) (C (k + 20)) 100000 q1 [x0, some (false, lI ds), some (false, .int tn), some (false, .int m), x4, x5, x6, x7, x8, x9, x10, x11, x12, x13, x14, x15, x16, x17, x18, x19, x20, x21, x22, x23] =
    some (.nx [x0, some (false, lI ds), some (false, .int tn), some (false, .int m), x4, some (false, tpI (rawW ds tn m)), x6, x7, x8, x9, x10, x11, x12, x13, x14, x15, x16, x17, x18, x19, x20, x21, x22, x23]) := by
  have hc := e_comp0 (gl := glI inf) (c := C (k + 20)) (ρ := [x0, some (false, lI ds), some (false, .int tn), some (false, .int m), x4, x5, x6, x7, x8, x9, x10, x11, x12, x13, x14, x15, x16, x17, x18, x19, x20, x21, x22, x23]) (elt := .bin .add (.int 1) (.bin .mod (.blt .int (.cons (.idx (.var 1) (.bin .add (.bin .add (.int 20) (.bin .mul (.int 8) (.var 2))) (.var 21))) .nil)) (.int 40))) (tg := .nm 21) (it := .range1 (.var 3)) (own := [("k", 21)]) (b := false) (l := List.range m.toNat) (fun j : Nat => .int (0 + (j : Int))) (fun j : Nat => .int (1 + dv ds (20 + 8 * tn + (0 + (j : Int))) % 40))
    (by
      have hb : -100000000 ≤ m ∧ m ≤ 100000000 := by omega
      simp only [e_non, e_bl, e_int, e_str, e_var, e_glob, e_bin, e_neg, e_cmp, e_isN, e_notN, e_chain, e_and_, e_or_, e_not_, e_ite, e_tup, e_lst, e_idx, e_sl, e_rev, e_sset, e_rng, e_call, e_callv, e_blt, e_isi, e_dis, e_dget, z_frz, z_app, z_ext, z_drop, z_set, z_setT, z_par, z_aug, z_put, z_augPut, z_ite, z_ret, z_retN, z_pass, z_brk, z_cont, z_never, z_nil, z_cons, evAnd, evOr, evF, evV, evKV, evI, evC, evP, seqF, setS, varOf, parS, augS, augI, appS, extS, putS, frzL, frzR, bindT, bindL, wipeR, kz, bz, oneI, dBin, dCmp, cLt, cLe, cGt, cGe, cEq_int, cNe_int, dIdx, dBi, bLen, bAbs, bInt, bSum, bMin, bMax, bAny, bAll, bSorted, bList, bTuple, isiD, noneB, fewD, dSl, Option.bind_some, Option.map_some, Option.bind_none, Option.map_none, isKey, keyD, zipD, intsD_map, boolsD_map, boolsD_mapf, intsD_mapf, Option.isSome_some, Nat.reduceLeDiff, Nat.zero_le, List.foldl_nil, List.length_cons, List.length_nil, List.length_map, List.map_cons, List.map_nil, List.cons_append, List.nil_append, List.replicate, List.getElem?_cons_zero, List.getElem?_cons_succ, List.set_cons_zero, List.set_cons_succ, ↓reduceIte, Bool.not_true, Bool.not_false, and_self, and_true, true_and, Bool.false_eq_true, reduceCtorEq, decide_true, decide_false, Nat.reduceAdd, Nat.reduceLT, Nat.reduceSub, Nat.reduceEqDiff, ne_eq, not_true_eq_false, not_false_eq_true, Option.some.injEq, exists_eq_left, Int.reduceNeg, beq_self_eq_true, Nat.zero_add, Nat.add_zero, hb, rangeD, Int.sub_zero]) (by rw [List.length_range]; omega) (fun j hj => by
      have hj := List.mem_range.mp hj
      have a1 := at_draw ds hl (20 + 8 * tn + (0 + (j : Int))) (by omega) (by omega)
      have mo := mul_ok (i := 8) (j := tn) (by omega) (by omega) (by omega) (by omega)
      simp only [List.map_cons, List.map_nil, wipeR, bindT, List.set_cons_succ, List.set_cons_zero, List.length_cons, List.length_nil, Nat.reduceAdd, Nat.reduceLT, ↓reduceIte, Option.some.injEq, exists_eq_left']
      simp only [lI, e_non, e_bl, e_int, e_str, e_var, e_glob, e_bin, e_neg, e_cmp, e_isN, e_notN, e_chain, e_and_, e_or_, e_not_, e_ite, e_tup, e_lst, e_idx, e_sl, e_rev, e_sset, e_rng, e_call, e_callv, e_blt, e_isi, e_dis, e_dget, z_frz, z_app, z_ext, z_drop, z_set, z_setT, z_par, z_aug, z_put, z_augPut, z_ite, z_ret, z_retN, z_pass, z_brk, z_cont, z_never, z_nil, z_cons, evAnd, evOr, evF, evV, evKV, evI, evC, evP, seqF, setS, varOf, parS, augS, augI, appS, extS, putS, frzL, frzR, bindT, bindL, wipeR, kz, bz, oneI, dBin, dCmp, cLt, cLe, cGt, cGe, cEq_int, cNe_int, dIdx, dBi, bLen, bAbs, bInt, bSum, bMin, bMax, bAny, bAll, bSorted, bList, bTuple, isiD, noneB, fewD, dSl, Option.bind_some, Option.map_some, Option.bind_none, Option.map_none, isKey, keyD, zipD, intsD_map, boolsD_map, boolsD_mapf, intsD_mapf, Option.isSome_some, Nat.reduceLeDiff, Nat.zero_le, List.foldl_nil, List.length_cons, List.length_nil, List.length_map, List.map_cons, List.map_nil, List.cons_append, List.nil_append, List.replicate, List.getElem?_cons_zero, List.getElem?_cons_succ, List.set_cons_zero, List.set_cons_succ, ↓reduceIte, Bool.not_true, Bool.not_false, and_self, and_true, true_and, Bool.false_eq_true, reduceCtorEq, decide_true, decide_false, Nat.reduceAdd, Nat.reduceLT, Nat.reduceSub, Nat.reduceEqDiff, ne_eq, not_true_eq_false, not_false_eq_true, Option.some.injEq, exists_eq_left, Int.reduceNeg, beq_self_eq_true, Nat.zero_add, Nat.add_zero, a1, mo, Int.reduceLT])
  have h64 : m.toNat < 64 := by omega
  simp only [q1, e_non, e_bl, e_int, e_str, e_var, e_glob, e_bin, e_neg, e_cmp, e_isN, e_notN, e_chain, e_and_, e_or_, e_not_, e_ite, e_tup, e_lst, e_idx, e_sl, e_rev, e_sset, e_rng, e_call, e_callv, e_blt, e_isi, e_dis, e_dget, z_frz, z_app, z_ext, z_drop, z_set, z_setT, z_par, z_aug, z_put, z_augPut, z_ite, z_ret, z_retN, z_pass, z_brk, z_cont, z_never, z_nil, z_cons, evAnd, evOr, evF, evV, evKV, evI, evC, evP, seqF, setS, varOf, parS, augS, augI, appS, extS, putS, frzL, frzR, bindT, bindL, wipeR, kz, bz, oneI, dBin, dCmp, cLt, cLe, cGt, cGe, cEq_int, cNe_int, dIdx, dBi, bLen, bAbs, bInt, bSum, bMin, bMax, bAny, bAll, bSorted, bList, bTuple, isiD, noneB, fewD, dSl, Option.bind_some, Option.map_some, Option.bind_none, Option.map_none, isKey, keyD, zipD, intsD_map, boolsD_map, boolsD_mapf, intsD_mapf, Option.isSome_some, Nat.reduceLeDiff, Nat.zero_le, List.foldl_nil, List.length_cons, List.length_nil, List.length_map, List.map_cons, List.map_nil, List.cons_append, List.nil_append, List.replicate, List.getElem?_cons_zero, List.getElem?_cons_succ, List.set_cons_zero, List.set_cons_succ, ↓reduceIte, Bool.not_true, Bool.not_false, and_self, and_true, true_and, Bool.false_eq_true, reduceCtorEq, decide_true, decide_false, Nat.reduceAdd, Nat.reduceLT, Nat.reduceSub, Nat.reduceEqDiff, ne_eq, not_true_eq_false, not_false_eq_true, Option.some.injEq, exists_eq_left, Int.reduceNeg, beq_self_eq_true, Nat.zero_add, Nat.add_zero, hc, List.length_range, h64]
  rfl
theorem s2 (k : Nat) (x0 x1 x2 x3 x6 x7 x8 x9 x10 x11 x12 x13 x14 x15 x16 x17 x18 x19 x20 x21 x22 x23 : Option (Bool × PyData)) (p : Int) (hp : p = 1 ∨ p = 2) (ws : List Int) (hw : Wk8 ws) (h40 : ∀ w ∈ ws, w ≤ 40) (h6 : ws.length ≤ 6) : evS (glI inf) (C (k + 20)) 100000 q2 [x0, x1, x2, x3, some (false, .int p), some (false, tpI ws), x6, x7, x8, x9, x10, x11, x12, x13, x14, x15, x16, x17, x18, x19, x20, x21, x22, x23] =
    some (.nx [x0, x1, x2, x3, some (false, .int p), some (false, tpI ws), some (false, dct (countsL ws p)), x7, x8, x9, x10, x11, x12, x13, x14, x15, x16, x17, x18, x19, x20, x21, x22, x23]) := by
  have c1 := c__law_ways (k + 19) ws p hw.l8
  simp only [q2, e_non, e_bl, e_int, e_str, e_var, e_glob, e_bin, e_neg, e_cmp, e_isN, e_notN, e_chain, e_and_, e_or_, e_not_, e_ite, e_tup, e_lst, e_idx, e_sl, e_rev, e_sset, e_rng, e_call, e_callv, e_blt, e_isi, e_dis, e_dget, z_frz, z_app, z_ext, z_drop, z_set, z_setT, z_par, z_aug, z_put, z_augPut, z_ite, z_ret, z_retN, z_pass, z_brk, z_cont, z_never, z_nil, z_cons, evAnd, evOr, evF, evV, evKV, evI, evC, evP, seqF, setS, varOf, parS, augS, augI, appS, extS, putS, frzL, frzR, bindT, bindL, wipeR, kz, bz, oneI, dBin, dCmp, cLt, cLe, cGt, cGe, cEq_int, cNe_int, dIdx, dBi, bLen, bAbs, bInt, bSum, bMin, bMax, bAny, bAll, bSorted, bList, bTuple, isiD, noneB, fewD, dSl, Option.bind_some, Option.map_some, Option.bind_none, Option.map_none, isKey, keyD, zipD, intsD_map, boolsD_map, boolsD_mapf, intsD_mapf, Option.isSome_some, Nat.reduceLeDiff, Nat.zero_le, List.foldl_nil, List.length_cons, List.length_nil, List.length_map, List.map_cons, List.map_nil, List.cons_append, List.nil_append, List.replicate, List.getElem?_cons_zero, List.getElem?_cons_succ, List.set_cons_zero, List.set_cons_succ, ↓reduceIte, Bool.not_true, Bool.not_false, and_self, and_true, true_and, Bool.false_eq_true, reduceCtorEq, decide_true, decide_false, Nat.reduceAdd, Nat.reduceLT, Nat.reduceSub, Nat.reduceEqDiff, ne_eq, not_true_eq_false, not_false_eq_true, Option.some.injEq, exists_eq_left, Int.reduceNeg, beq_self_eq_true, Nat.zero_add, Nat.add_zero, c1]
theorem s3 (k : Nat) (x0 x1 x2 x3 x7 x8 x9 x10 x11 x12 x13 x14 x15 x16 x17 x18 x19 x20 x21 x22 x23 : Option (Bool × PyData)) (p : Int) (hp : p = 1 ∨ p = 2) (ws : List Int) (hw : Wk8 ws) (h40 : ∀ w ∈ ws, w ≤ 40) (h6 : ws.length ≤ 6) : evS (glI inf) (C (k + 20)) 100000 q3 [x0, x1, x2, x3, some (false, .int p), some (false, tpI ws), some (false, dct (countsL ws p)), x7, x8, x9, x10, x11, x12, x13, x14, x15, x16, x17, x18, x19, x20, x21, x22, x23] =
    some (.nx [x0, x1, x2, x3, some (false, .int p), some (false, tpI ws), some (false, dct (countsL ws p)), x7, x8, x9, x10, x11, x12, x13, x14, x15, x16, x17, x18, x19, x20, x21, x22, x23]) := by
  have c1 := c_weighable (k + 17) ws p hw hp
  have hln := counts_len (p := p) hw.l8
  have hc := e_comp1 (gl := glI inf) (c := C (k + 20)) (ρ := [x0, x1, x2, x3, some (false, .int p), some (false, tpI ws), some (false, dct (countsL ws p)), x7, x8, x9, x10, x11, x12, x13, x14, x15, x16, x17, x18, x19, x20, x21, x22, x23]) (elt := .var 7) (cond := .cmp .gt (.var 7) (.int 0)) (tg := .nm 7) (it := .over (.var 6)) (own := [("total", 7)]) (b := false) (l := (countsL ws p).map (·.1)) .int .int (fun k => decide (0 < k))
    (by simp only [e_non, e_bl, e_int, e_str, e_var, e_glob, e_bin, e_neg, e_cmp, e_isN, e_notN, e_chain, e_and_, e_or_, e_not_, e_ite, e_tup, e_lst, e_idx, e_sl, e_rev, e_sset, e_rng, e_call, e_callv, e_blt, e_isi, e_dis, e_dget, z_frz, z_app, z_ext, z_drop, z_set, z_setT, z_par, z_aug, z_put, z_augPut, z_ite, z_ret, z_retN, z_pass, z_brk, z_cont, z_never, z_nil, z_cons, evAnd, evOr, evF, evV, evKV, evI, evC, evP, seqF, setS, varOf, parS, augS, augI, appS, extS, putS, frzL, frzR, bindT, bindL, wipeR, kz, bz, oneI, dBin, dCmp, cLt, cLe, cGt, cGe, cEq_int, cNe_int, dIdx, dBi, bLen, bAbs, bInt, bSum, bMin, bMax, bAny, bAll, bSorted, bList, bTuple, isiD, noneB, fewD, dSl, Option.bind_some, Option.map_some, Option.bind_none, Option.map_none, isKey, keyD, zipD, intsD_map, boolsD_map, boolsD_mapf, intsD_mapf, Option.isSome_some, Nat.reduceLeDiff, Nat.zero_le, List.foldl_nil, List.length_cons, List.length_nil, List.length_map, List.map_cons, List.map_nil, List.cons_append, List.nil_append, List.replicate, List.getElem?_cons_zero, List.getElem?_cons_succ, List.set_cons_zero, List.set_cons_succ, ↓reduceIte, Bool.not_true, Bool.not_false, and_self, and_true, true_and, Bool.false_eq_true, reduceCtorEq, decide_true, decide_false, Nat.reduceAdd, Nat.reduceLT, Nat.reduceSub, Nat.reduceEqDiff, ne_eq, not_true_eq_false, not_false_eq_true, Option.some.injEq, exists_eq_left, Int.reduceNeg, beq_self_eq_true, Nat.zero_add, Nat.add_zero, realD_int, kvI_keys]) (by rw [List.length_map]; omega) (fun x hx => by
      simp only [List.map_cons, List.map_nil, wipeR, bindT, List.set_cons_succ, List.set_cons_zero, List.length_cons, List.length_nil, Nat.reduceAdd, Nat.reduceLT, ↓reduceIte, Option.some.injEq, exists_eq_left']
      simp only [e_non, e_bl, e_int, e_str, e_var, e_glob, e_bin, e_neg, e_cmp, e_isN, e_notN, e_chain, e_and_, e_or_, e_not_, e_ite, e_tup, e_lst, e_idx, e_sl, e_rev, e_sset, e_rng, e_call, e_callv, e_blt, e_isi, e_dis, e_dget, z_frz, z_app, z_ext, z_drop, z_set, z_setT, z_par, z_aug, z_put, z_augPut, z_ite, z_ret, z_retN, z_pass, z_brk, z_cont, z_never, z_nil, z_cons, evAnd, evOr, evF, evV, evKV, evI, evC, evP, seqF, setS, varOf, parS, augS, augI, appS, extS, putS, frzL, frzR, bindT, bindL, wipeR, kz, bz, oneI, dBin, dCmp, cLt, cLe, cGt, cGe, cEq_int, cNe_int, dIdx, dBi, bLen, bAbs, bInt, bSum, bMin, bMax, bAny, bAll, bSorted, bList, bTuple, isiD, noneB, fewD, dSl, Option.bind_some, Option.map_some, Option.bind_none, Option.map_none, isKey, keyD, zipD, intsD_map, boolsD_map, boolsD_mapf, intsD_mapf, Option.isSome_some, Nat.reduceLeDiff, Nat.zero_le, List.foldl_nil, List.length_cons, List.length_nil, List.length_map, List.map_cons, List.map_nil, List.cons_append, List.nil_append, List.replicate, List.getElem?_cons_zero, List.getElem?_cons_succ, List.set_cons_zero, List.set_cons_succ, ↓reduceIte, Bool.not_true, Bool.not_false, and_self, and_true, true_and, Bool.false_eq_true, reduceCtorEq, decide_true, decide_false, Nat.reduceAdd, Nat.reduceLT, Nat.reduceSub, Nat.reduceEqDiff, ne_eq, not_true_eq_false, not_false_eq_true, Option.some.injEq, exists_eq_left, Int.reduceNeg, beq_self_eq_true, Nat.zero_add, Nat.add_zero])
  have hs := sortB_int (((countsL ws p).map (·.1)).filter fun k => decide (0 < k)) (Nat.le_trans (List.length_filter_le _ _) (by rw [List.length_map]; omega))
  have e : cNe (tpI (wbl ws p)) (.tuple ((srt (((countsL ws p).map (·.1)).filter fun k => decide (0 < k))).map .int)) = some false := by
    have := cNe_tI (wbl ws p) (wbl ws p)
    simp only [ne_eq, not_true_eq_false, decide_false] at this
    exact this
  simp only [q3, e_non, e_bl, e_int, e_str, e_var, e_glob, e_bin, e_neg, e_cmp, e_isN, e_notN, e_chain, e_and_, e_or_, e_not_, e_ite, e_tup, e_lst, e_idx, e_sl, e_rev, e_sset, e_rng, e_call, e_callv, e_blt, e_isi, e_dis, e_dget, z_frz, z_app, z_ext, z_drop, z_set, z_setT, z_par, z_aug, z_put, z_augPut, z_ite, z_ret, z_retN, z_pass, z_brk, z_cont, z_never, z_nil, z_cons, evAnd, evOr, evF, evV, evKV, evI, evC, evP, seqF, setS, varOf, parS, augS, augI, appS, extS, putS, frzL, frzR, bindT, bindL, wipeR, kz, bz, oneI, dBin, dCmp, cLt, cLe, cGt, cGe, cEq_int, cNe_int, dIdx, dBi, bLen, bAbs, bInt, bSum, bMin, bMax, bAny, bAll, bSorted, bList, bTuple, isiD, noneB, fewD, dSl, Option.bind_some, Option.map_some, Option.bind_none, Option.map_none, isKey, keyD, zipD, intsD_map, boolsD_map, boolsD_mapf, intsD_mapf, Option.isSome_some, Nat.reduceLeDiff, Nat.zero_le, List.foldl_nil, List.length_cons, List.length_nil, List.length_map, List.map_cons, List.map_nil, List.cons_append, List.nil_append, List.replicate, List.getElem?_cons_zero, List.getElem?_cons_succ, List.set_cons_zero, List.set_cons_succ, ↓reduceIte, Bool.not_true, Bool.not_false, and_self, and_true, true_and, Bool.false_eq_true, reduceCtorEq, decide_true, decide_false, Nat.reduceAdd, Nat.reduceLT, Nat.reduceSub, Nat.reduceEqDiff, ne_eq, not_true_eq_false, not_false_eq_true, Option.some.injEq, exists_eq_left, Int.reduceNeg, beq_self_eq_true, Nat.zero_add, Nat.add_zero, c1, hc, hs, sortD_int, e]
theorem s4 (k : Nat) (x0 x1 x2 x3 x6 x7 x8 x9 x10 x11 x12 x13 x14 x15 x16 x17 x18 x19 x20 x21 x22 x23 : Option (Bool × PyData)) (p : Int) (hp : p = 1 ∨ p = 2) (ws : List Int) (hw : Wk8 ws) (h40 : ∀ w ∈ ws, w ≤ 40) (h6 : ws.length ≤ 6) : evS (glI inf) (C (k + 20)) 100000 q4 [x0, x1, x2, x3, some (false, .int p), some (false, tpI ws), x6, x7, x8, x9, x10, x11, x12, x13, x14, x15, x16, x17, x18, x19, x20, x21, x22, x23] =
    some (.nx [x0, x1, x2, x3, some (false, .int p), some (false, tpI ws), x6, some (false, .int (sumF (cnt ws p) (wbl ws p))), x8, x9, x10, x11, x12, x13, x14, x15, x16, x17, x18, x19, x20, x21, x22, x23]) := by
  have c1 := c_weighable (k + 17) ws p hw hp
  have hwl := wbl_len ws p hw
  have hc := e_comp0 (gl := glI inf) (c := C (k + 20)) (ρ := [x0, x1, x2, x3, some (false, .int p), some (false, tpI ws), x6, x7, x8, x9, x10, x11, x12, x13, x14, x15, x16, x17, x18, x19, x20, x21, x22, x23]) (elt := .call "ways_to" (.cons (.var 5) (.cons (.var 4) (.cons (.var 12) .nil)))) (tg := .nm 12) (it := .over (.call "weighable" (.cons (.var 5) (.cons (.var 4) .nil)))) (own := [("amount", 12)]) (b := false) (l := wbl ws p) .int (fun a => .int (cnt ws p a))
    (by
      simp only [tpI] at c1 ⊢
      simp only [e_non, e_bl, e_int, e_str, e_var, e_glob, e_bin, e_neg, e_cmp, e_isN, e_notN, e_chain, e_and_, e_or_, e_not_, e_ite, e_tup, e_lst, e_idx, e_sl, e_rev, e_sset, e_rng, e_call, e_callv, e_blt, e_isi, e_dis, e_dget, z_frz, z_app, z_ext, z_drop, z_set, z_setT, z_par, z_aug, z_put, z_augPut, z_ite, z_ret, z_retN, z_pass, z_brk, z_cont, z_never, z_nil, z_cons, evAnd, evOr, evF, evV, evKV, evI, evC, evP, seqF, setS, varOf, parS, augS, augI, appS, extS, putS, frzL, frzR, bindT, bindL, wipeR, kz, bz, oneI, dBin, dCmp, cLt, cLe, cGt, cGe, cEq_int, cNe_int, dIdx, dBi, bLen, bAbs, bInt, bSum, bMin, bMax, bAny, bAll, bSorted, bList, bTuple, isiD, noneB, fewD, dSl, Option.bind_some, Option.map_some, Option.bind_none, Option.map_none, isKey, keyD, zipD, intsD_map, boolsD_map, boolsD_mapf, intsD_mapf, Option.isSome_some, Nat.reduceLeDiff, Nat.zero_le, List.foldl_nil, List.length_cons, List.length_nil, List.length_map, List.map_cons, List.map_nil, List.cons_append, List.nil_append, List.replicate, List.getElem?_cons_zero, List.getElem?_cons_succ, List.set_cons_zero, List.set_cons_succ, ↓reduceIte, Bool.not_true, Bool.not_false, and_self, and_true, true_and, Bool.false_eq_true, reduceCtorEq, decide_true, decide_false, Nat.reduceAdd, Nat.reduceLT, Nat.reduceSub, Nat.reduceEqDiff, ne_eq, not_true_eq_false, not_false_eq_true, Option.some.injEq, exists_eq_left, Int.reduceNeg, beq_self_eq_true, Nat.zero_add, Nat.add_zero, c1, beq_iff_eq]) (by omega) (fun x hx => by
      have hb := wbl_bd (B := 40) (fun w h => ⟨(hw.rng w h).1, h40 w h⟩) hx
      have c2 := c_ways_to (k + 17) ws p x hw hp hb.1 (by omega)
      rw [fv_cnt] at c2
      simp only [List.map_cons, List.map_nil, wipeR, bindT, List.set_cons_succ, List.set_cons_zero, List.length_cons, List.length_nil, Nat.reduceAdd, Nat.reduceLT, ↓reduceIte, Option.some.injEq, exists_eq_left']
      simp only [e_non, e_bl, e_int, e_str, e_var, e_glob, e_bin, e_neg, e_cmp, e_isN, e_notN, e_chain, e_and_, e_or_, e_not_, e_ite, e_tup, e_lst, e_idx, e_sl, e_rev, e_sset, e_rng, e_call, e_callv, e_blt, e_isi, e_dis, e_dget, z_frz, z_app, z_ext, z_drop, z_set, z_setT, z_par, z_aug, z_put, z_augPut, z_ite, z_ret, z_retN, z_pass, z_brk, z_cont, z_never, z_nil, z_cons, evAnd, evOr, evF, evV, evKV, evI, evC, evP, seqF, setS, varOf, parS, augS, augI, appS, extS, putS, frzL, frzR, bindT, bindL, wipeR, kz, bz, oneI, dBin, dCmp, cLt, cLe, cGt, cGe, cEq_int, cNe_int, dIdx, dBi, bLen, bAbs, bInt, bSum, bMin, bMax, bAny, bAll, bSorted, bList, bTuple, isiD, noneB, fewD, dSl, Option.bind_some, Option.map_some, Option.bind_none, Option.map_none, isKey, keyD, zipD, intsD_map, boolsD_map, boolsD_mapf, intsD_mapf, Option.isSome_some, Nat.reduceLeDiff, Nat.zero_le, List.foldl_nil, List.length_cons, List.length_nil, List.length_map, List.map_cons, List.map_nil, List.cons_append, List.nil_append, List.replicate, List.getElem?_cons_zero, List.getElem?_cons_succ, List.set_cons_zero, List.set_cons_succ, ↓reduceIte, Bool.not_true, Bool.not_false, and_self, and_true, true_and, Bool.false_eq_true, reduceCtorEq, decide_true, decide_false, Nat.reduceAdd, Nat.reduceLT, Nat.reduceSub, Nat.reduceEqDiff, ne_eq, not_true_eq_false, not_false_eq_true, Option.some.injEq, exists_eq_left, Int.reduceNeg, beq_self_eq_true, Nat.zero_add, Nat.add_zero, c2])
  simp only [q4, e_non, e_bl, e_int, e_str, e_var, e_glob, e_bin, e_neg, e_cmp, e_isN, e_notN, e_chain, e_and_, e_or_, e_not_, e_ite, e_tup, e_lst, e_idx, e_sl, e_rev, e_sset, e_rng, e_call, e_callv, e_blt, e_isi, e_dis, e_dget, z_frz, z_app, z_ext, z_drop, z_set, z_setT, z_par, z_aug, z_put, z_augPut, z_ite, z_ret, z_retN, z_pass, z_brk, z_cont, z_never, z_nil, z_cons, evAnd, evOr, evF, evV, evKV, evI, evC, evP, seqF, setS, varOf, parS, augS, augI, appS, extS, putS, frzL, frzR, bindT, bindL, wipeR, kz, bz, oneI, dBin, dCmp, cLt, cLe, cGt, cGe, cEq_int, cNe_int, dIdx, dBi, bLen, bAbs, bInt, bSum, bMin, bMax, bAny, bAll, bSorted, bList, bTuple, isiD, noneB, fewD, dSl, Option.bind_some, Option.map_some, Option.bind_none, Option.map_none, isKey, keyD, zipD, intsD_map, boolsD_map, boolsD_mapf, intsD_mapf, Option.isSome_some, Nat.reduceLeDiff, Nat.zero_le, List.foldl_nil, List.length_cons, List.length_nil, List.length_map, List.map_cons, List.map_nil, List.cons_append, List.nil_append, List.replicate, List.getElem?_cons_zero, List.getElem?_cons_succ, List.set_cons_zero, List.set_cons_succ, ↓reduceIte, Bool.not_true, Bool.not_false, and_self, and_true, true_and, Bool.false_eq_true, reduceCtorEq, decide_true, decide_false, Nat.reduceAdd, Nat.reduceLT, Nat.reduceSub, Nat.reduceEqDiff, ne_eq, not_true_eq_false, not_false_eq_true, Option.some.injEq, exists_eq_left, Int.reduceNeg, beq_self_eq_true, Nat.zero_add, Nat.add_zero, hc, sum_sumF]
theorem s5 (k : Nat) (x0 x1 x2 x3 x4 x5 x6 x7 x8 x9 x10 x11 x12 x13 x14 x15 x16 x17 x18 x19 x20 x21 x22 x23 : Option (Bool × PyData))  : evS (glI inf) (C (k + 20)) 100000 q5 [x0, x1, x2, x3, x4, x5, x6, x7, x8, x9, x10, x11, x12, x13, x14, x15, x16, x17, x18, x19, x20, x21, x22, x23] =
    some (.nx [x0, x1, x2, x3, x4, x5, x6, x7, some (false, .int 1), x9, x10, x11, x12, x13, x14, x15, x16, x17, x18, x19, x20, x21, x22, x23]) := by
  simp only [q5, e_non, e_bl, e_int, e_str, e_var, e_glob, e_bin, e_neg, e_cmp, e_isN, e_notN, e_chain, e_and_, e_or_, e_not_, e_ite, e_tup, e_lst, e_idx, e_sl, e_rev, e_sset, e_rng, e_call, e_callv, e_blt, e_isi, e_dis, e_dget, z_frz, z_app, z_ext, z_drop, z_set, z_setT, z_par, z_aug, z_put, z_augPut, z_ite, z_ret, z_retN, z_pass, z_brk, z_cont, z_never, z_nil, z_cons, evAnd, evOr, evF, evV, evKV, evI, evC, evP, seqF, setS, varOf, parS, augS, augI, appS, extS, putS, frzL, frzR, bindT, bindL, wipeR, kz, bz, oneI, dBin, dCmp, cLt, cLe, cGt, cGe, cEq_int, cNe_int, dIdx, dBi, bLen, bAbs, bInt, bSum, bMin, bMax, bAny, bAll, bSorted, bList, bTuple, isiD, noneB, fewD, dSl, Option.bind_some, Option.map_some, Option.bind_none, Option.map_none, isKey, keyD, zipD, intsD_map, boolsD_map, boolsD_mapf, intsD_mapf, Option.isSome_some, Nat.reduceLeDiff, Nat.zero_le, List.foldl_nil, List.length_cons, List.length_nil, List.length_map, List.map_cons, List.map_nil, List.cons_append, List.nil_append, List.replicate, List.getElem?_cons_zero, List.getElem?_cons_succ, List.set_cons_zero, List.set_cons_succ, ↓reduceIte, Bool.not_true, Bool.not_false, and_self, and_true, true_and, Bool.false_eq_true, reduceCtorEq, decide_true, decide_false, Nat.reduceAdd, Nat.reduceLT, Nat.reduceSub, Nat.reduceEqDiff, ne_eq, not_true_eq_false, not_false_eq_true, Option.some.injEq, exists_eq_left, Int.reduceNeg, beq_self_eq_true, Nat.zero_add, Nat.add_zero]
theorem s6 (k : Nat) (x0 x1 x2 x3 x6 x7 x9 x10 x11 x12 x13 x14 x15 x16 x17 x18 x19 x20 x21 x22 x23 : Option (Bool × PyData)) (p : Int) (hp : p = 1 ∨ p = 2) (ws : List Int) (hw : Wk8 ws) (h40 : ∀ w ∈ ws, w ≤ 40) (h6 : ws.length ≤ 6) : ∃ y, evS (glI inf) (C (k + 20)) 100000 q6 [x0, x1, x2, x3, some (false, .int p), some (false, tpI ws), x6, x7, some (false, .int 1), x9, x10, x11, x12, x13, x14, x15, x16, x17, x18, x19, x20, x21, x22, x23] =
    some (.nx [x0, x1, x2, x3, some (false, .int p), some (false, tpI ws), x6, x7, some (false, .int (powI (p + 1) ws.length)), y, x10, x11, x12, x13, x14, x15, x16, x17, x18, x19, x20, x21, x22, x23]) := by
  have z := z_for (gl := glI inf) (c := C (k + 20)) (n := 100000) (ρ := [x0, x1, x2, x3, some (false, .int p), some (false, tpI ws), x6, x7, some (false, .int 1), x9, x10, x11, x12, x13, x14, x15, x16, x17, x18, x19, x20, x21, x22, x23]) (t := .nm 9) (it := .over (.var 5)) (b := (.cons (.set 8 (.bin .mul (.var 8) (.bin .add (.var 4) (.int 1)))) (.cons (.frz [8]) .nil))) (l := ws) .int
    (fun rest ρ => ∃ n y, ρ = [x0, x1, x2, x3, some (false, .int p), some (false, tpI ws), x6, x7, some (false, .int (powI (p + 1) n)), y, x10, x11, x12, x13, x14, x15, x16, x17, x18, x19, x20, x21, x22, x23] ∧ n + rest.length = ws.length)
    (by simp only [e_non, e_bl, e_int, e_str, e_var, e_glob, e_bin, e_neg, e_cmp, e_isN, e_notN, e_chain, e_and_, e_or_, e_not_, e_ite, e_tup, e_lst, e_idx, e_sl, e_rev, e_sset, e_rng, e_call, e_callv, e_blt, e_isi, e_dis, e_dget, z_frz, z_app, z_ext, z_drop, z_set, z_setT, z_par, z_aug, z_put, z_augPut, z_ite, z_ret, z_retN, z_pass, z_brk, z_cont, z_never, z_nil, z_cons, evAnd, evOr, evF, evV, evKV, evI, evC, evP, seqF, setS, varOf, parS, augS, augI, appS, extS, putS, frzL, frzR, bindT, bindL, wipeR, kz, bz, oneI, dBin, dCmp, cLt, cLe, cGt, cGe, cEq_int, cNe_int, dIdx, dBi, bLen, bAbs, bInt, bSum, bMin, bMax, bAny, bAll, bSorted, bList, bTuple, isiD, noneB, fewD, dSl, Option.bind_some, Option.map_some, Option.bind_none, Option.map_none, isKey, keyD, zipD, intsD_map, boolsD_map, boolsD_mapf, intsD_mapf, Option.isSome_some, Nat.reduceLeDiff, Nat.zero_le, List.foldl_nil, List.length_cons, List.length_nil, List.length_map, List.map_cons, List.map_nil, List.cons_append, List.nil_append, List.replicate, List.getElem?_cons_zero, List.getElem?_cons_succ, List.set_cons_zero, List.set_cons_succ, ↓reduceIte, Bool.not_true, Bool.not_false, and_self, and_true, true_and, Bool.false_eq_true, reduceCtorEq, decide_true, decide_false, Nat.reduceAdd, Nat.reduceLT, Nat.reduceSub, Nat.reduceEqDiff, ne_eq, not_true_eq_false, not_false_eq_true, Option.some.injEq, exists_eq_left, Int.reduceNeg, beq_self_eq_true, Nat.zero_add, Nat.add_zero, tpI, beq_iff_eq]) ⟨0, x9, rfl, by omega⟩ ?_
  · obtain ⟨ρ', h1, n, y, h2, h3⟩ := z
    subst h2
    rw [List.length_nil, Nat.add_zero] at h3
    subst h3
    exact ⟨y, h1⟩
  · rintro q r ρ ⟨n, y, rfl, h⟩
    rw [List.length_cons] at h
    have b1 := pw_pos p hp n
    have b2 := pw_le6 p hp n (by omega)
    have mo := mul_ok (i := powI (p + 1) n) (j := p + 1) (by omega) (by omega) (by omega) (by omega)
    refine ⟨_, _, by simp only [e_non, e_bl, e_int, e_str, e_var, e_glob, e_bin, e_neg, e_cmp, e_isN, e_notN, e_chain, e_and_, e_or_, e_not_, e_ite, e_tup, e_lst, e_idx, e_sl, e_rev, e_sset, e_rng, e_call, e_callv, e_blt, e_isi, e_dis, e_dget, z_frz, z_app, z_ext, z_drop, z_set, z_setT, z_par, z_aug, z_put, z_augPut, z_ite, z_ret, z_retN, z_pass, z_brk, z_cont, z_never, z_nil, z_cons, evAnd, evOr, evF, evV, evKV, evI, evC, evP, seqF, setS, varOf, parS, augS, augI, appS, extS, putS, frzL, frzR, bindT, bindL, wipeR, kz, bz, oneI, dBin, dCmp, cLt, cLe, cGt, cGe, cEq_int, cNe_int, dIdx, dBi, bLen, bAbs, bInt, bSum, bMin, bMax, bAny, bAll, bSorted, bList, bTuple, isiD, noneB, fewD, dSl, Option.bind_some, Option.map_some, Option.bind_none, Option.map_none, isKey, keyD, zipD, intsD_map, boolsD_map, boolsD_mapf, intsD_mapf, Option.isSome_some, Nat.reduceLeDiff, Nat.zero_le, List.foldl_nil, List.length_cons, List.length_nil, List.length_map, List.map_cons, List.map_nil, List.cons_append, List.nil_append, List.replicate, List.getElem?_cons_zero, List.getElem?_cons_succ, List.set_cons_zero, List.set_cons_succ, ↓reduceIte, Bool.not_true, Bool.not_false, and_self, and_true, true_and, Bool.false_eq_true, reduceCtorEq, decide_true, decide_false, Nat.reduceAdd, Nat.reduceLT, Nat.reduceSub, Nat.reduceEqDiff, ne_eq, not_true_eq_false, not_false_eq_true, Option.some.injEq, exists_eq_left, Int.reduceNeg, beq_self_eq_true, Nat.zero_add, Nat.add_zero]; rfl, .inl (by simp only [e_non, e_bl, e_int, e_str, e_var, e_glob, e_bin, e_neg, e_cmp, e_isN, e_notN, e_chain, e_and_, e_or_, e_not_, e_ite, e_tup, e_lst, e_idx, e_sl, e_rev, e_sset, e_rng, e_call, e_callv, e_blt, e_isi, e_dis, e_dget, z_frz, z_app, z_ext, z_drop, z_set, z_setT, z_par, z_aug, z_put, z_augPut, z_ite, z_ret, z_retN, z_pass, z_brk, z_cont, z_never, z_nil, z_cons, evAnd, evOr, evF, evV, evKV, evI, evC, evP, seqF, setS, varOf, parS, augS, augI, appS, extS, putS, frzL, frzR, bindT, bindL, wipeR, kz, bz, oneI, dBin, dCmp, cLt, cLe, cGt, cGe, cEq_int, cNe_int, dIdx, dBi, bLen, bAbs, bInt, bSum, bMin, bMax, bAny, bAll, bSorted, bList, bTuple, isiD, noneB, fewD, dSl, Option.bind_some, Option.map_some, Option.bind_none, Option.map_none, isKey, keyD, zipD, intsD_map, boolsD_map, boolsD_mapf, intsD_mapf, Option.isSome_some, Nat.reduceLeDiff, Nat.zero_le, List.foldl_nil, List.length_cons, List.length_nil, List.length_map, List.map_cons, List.map_nil, List.cons_append, List.nil_append, List.replicate, List.getElem?_cons_zero, List.getElem?_cons_succ, List.set_cons_zero, List.set_cons_succ, ↓reduceIte, Bool.not_true, Bool.not_false, and_self, and_true, true_and, Bool.false_eq_true, reduceCtorEq, decide_true, decide_false, Nat.reduceAdd, Nat.reduceLT, Nat.reduceSub, Nat.reduceEqDiff, ne_eq, not_true_eq_false, not_false_eq_true, Option.some.injEq, exists_eq_left, Int.reduceNeg, beq_self_eq_true, Nat.zero_add, Nat.add_zero, mo]; rfl), n + 1, _, rfl, by omega⟩
theorem s7 (k : Nat) (x0 x1 x2 x3 x9 x10 x11 x12 x13 x14 x15 x16 x17 x18 x19 x20 x21 x22 x23 : Option (Bool × PyData)) (p : Int) (hp : p = 1 ∨ p = 2) (ws : List Int) (hw : Wk8 ws) (h40 : ∀ w ∈ ws, w ≤ 40) (h6 : ws.length ≤ 6) : evS (glI inf) (C (k + 20)) 100000 q7 [x0, x1, x2, x3, some (false, .int p), some (false, tpI ws), some (false, dct (countsL ws p)), some (false, .int (sumF (cnt ws p) (wbl ws p))), some (false, .int (powI (p + 1) ws.length)), x9, x10, x11, x12, x13, x14, x15, x16, x17, x18, x19, x20, x21, x22, x23] =
    some (.nx [x0, x1, x2, x3, some (false, .int p), some (false, tpI ws), some (false, dct (countsL ws p)), some (false, .int (sumF (cnt ws p) (wbl ws p))), some (false, .int (powI (p + 1) ws.length)), x9, x10, x11, x12, x13, x14, x15, x16, x17, x18, x19, x20, x21, x22, x23]) := by
  have c1 := c_weighable (k + 17) ws p hw hp
  have hwl := wbl_len ws p hw
  have hc := e_comp0 (gl := glI inf) (c := C (k + 20)) (ρ := [x0, x1, x2, x3, some (false, .int p), some (false, tpI ws), some (false, dct (countsL ws p)), some (false, .int (sumF (cnt ws p) (wbl ws p))), some (false, .int (powI (p + 1) ws.length)), x9, x10, x11, x12, x13, x14, x15, x16, x17, x18, x19, x20, x21, x22, x23]) (elt := .cmp .ne (.call "ways_to" (.cons (.var 5) (.cons (.var 4) (.cons (.var 12) .nil)))) (.idx (.var 6) (.var 12))) (tg := .nm 12) (it := .over (.sl (.blt .list (.cons (.call "weighable" (.cons (.var 5) (.cons (.var 4) .nil))) .nil)) .no (.int 20))) (own := [("amount", 12)]) (b := false) (l := (wbl ws p).take 20) .int (fun a => .bool false)
    (by
      simp only [tpI] at c1 ⊢
      simp only [e_non, e_bl, e_int, e_str, e_var, e_glob, e_bin, e_neg, e_cmp, e_isN, e_notN, e_chain, e_and_, e_or_, e_not_, e_ite, e_tup, e_lst, e_idx, e_sl, e_rev, e_sset, e_rng, e_call, e_callv, e_blt, e_isi, e_dis, e_dget, z_frz, z_app, z_ext, z_drop, z_set, z_setT, z_par, z_aug, z_put, z_augPut, z_ite, z_ret, z_retN, z_pass, z_brk, z_cont, z_never, z_nil, z_cons, evAnd, evOr, evF, evV, evKV, evI, evC, evP, seqF, setS, varOf, parS, augS, augI, appS, extS, putS, frzL, frzR, bindT, bindL, wipeR, kz, bz, oneI, dBin, dCmp, cLt, cLe, cGt, cGe, cEq_int, cNe_int, dIdx, dBi, bLen, bAbs, bInt, bSum, bMin, bMax, bAny, bAll, bSorted, bList, bTuple, isiD, noneB, fewD, dSl, Option.bind_some, Option.map_some, Option.bind_none, Option.map_none, isKey, keyD, zipD, intsD_map, boolsD_map, boolsD_mapf, intsD_mapf, Option.isSome_some, Nat.reduceLeDiff, Nat.zero_le, List.foldl_nil, List.length_cons, List.length_nil, List.length_map, List.map_cons, List.map_nil, List.cons_append, List.nil_append, List.replicate, List.getElem?_cons_zero, List.getElem?_cons_succ, List.set_cons_zero, List.set_cons_succ, ↓reduceIte, Bool.not_true, Bool.not_false, and_self, and_true, true_and, Bool.false_eq_true, reduceCtorEq, decide_true, decide_false, Nat.reduceAdd, Nat.reduceLT, Nat.reduceSub, Nat.reduceEqDiff, ne_eq, not_true_eq_false, not_false_eq_true, Option.some.injEq, exists_eq_left, Int.reduceNeg, beq_self_eq_true, Nat.zero_add, Nat.add_zero, c1, cut20]; rfl) (by rw [List.length_take]; omega) (fun x hx => by
      have hx := List.mem_of_mem_take hx
      have hb := wbl_bd (B := 40) (fun w h => ⟨(hw.rng w h).1, h40 w h⟩) hx
      have c2 := c_ways_to (k + 17) ws p x hw hp hb.1 (by omega)
      rw [fv_cnt] at c2
      have l1 := look1 ws p x (wbl_mem.mp hx).2
      simp only [List.map_cons, List.map_nil, wipeR, bindT, List.set_cons_succ, List.set_cons_zero, List.length_cons, List.length_nil, Nat.reduceAdd, Nat.reduceLT, ↓reduceIte, Option.some.injEq, exists_eq_left']
      simp only [e_non, e_bl, e_int, e_str, e_var, e_glob, e_bin, e_neg, e_cmp, e_isN, e_notN, e_chain, e_and_, e_or_, e_not_, e_ite, e_tup, e_lst, e_idx, e_sl, e_rev, e_sset, e_rng, e_call, e_callv, e_blt, e_isi, e_dis, e_dget, z_frz, z_app, z_ext, z_drop, z_set, z_setT, z_par, z_aug, z_put, z_augPut, z_ite, z_ret, z_retN, z_pass, z_brk, z_cont, z_never, z_nil, z_cons, evAnd, evOr, evF, evV, evKV, evI, evC, evP, seqF, setS, varOf, parS, augS, augI, appS, extS, putS, frzL, frzR, bindT, bindL, wipeR, kz, bz, oneI, dBin, dCmp, cLt, cLe, cGt, cGe, cEq_int, cNe_int, dIdx, dBi, bLen, bAbs, bInt, bSum, bMin, bMax, bAny, bAll, bSorted, bList, bTuple, isiD, noneB, fewD, dSl, Option.bind_some, Option.map_some, Option.bind_none, Option.map_none, isKey, keyD, zipD, intsD_map, boolsD_map, boolsD_mapf, intsD_mapf, Option.isSome_some, Nat.reduceLeDiff, Nat.zero_le, List.foldl_nil, List.length_cons, List.length_nil, List.length_map, List.map_cons, List.map_nil, List.cons_append, List.nil_append, List.replicate, List.getElem?_cons_zero, List.getElem?_cons_succ, List.set_cons_zero, List.set_cons_succ, ↓reduceIte, Bool.not_true, Bool.not_false, and_self, and_true, true_and, Bool.false_eq_true, reduceCtorEq, decide_true, decide_false, Nat.reduceAdd, Nat.reduceLT, Nat.reduceSub, Nat.reduceEqDiff, ne_eq, not_true_eq_false, not_false_eq_true, Option.some.injEq, exists_eq_left, Int.reduceNeg, beq_self_eq_true, Nat.zero_add, Nat.add_zero, c2, l1, realD_int])
  have l0 := look1 ws p 0 (cnt0_pos p ws)
  have tp := total_pos (ws := ws) (p := p) (fun w h => by have := hw.rng w h; omega) hp
  have tb := tot2 ws p hw h40 h6 hp
  have mo := mul_ok (i := 2) (j := sumF (cnt ws p) (wbl ws p)) (by omega) (by omega) tb.1 tb.2
  rcases hp with hp | hp
  · subst hp
    rw [if_pos rfl] at tp
    have e : decide (¬ sumF (cnt ws 1) (wbl ws 1) = powI (1 + 1) ws.length - cnt ws 1 0) = false := by simpa using tp
    simp only [q7, e_non, e_bl, e_int, e_str, e_var, e_glob, e_bin, e_neg, e_cmp, e_isN, e_notN, e_chain, e_and_, e_or_, e_not_, e_ite, e_tup, e_lst, e_idx, e_sl, e_rev, e_sset, e_rng, e_call, e_callv, e_blt, e_isi, e_dis, e_dget, z_frz, z_app, z_ext, z_drop, z_set, z_setT, z_par, z_aug, z_put, z_augPut, z_ite, z_ret, z_retN, z_pass, z_brk, z_cont, z_never, z_nil, z_cons, evAnd, evOr, evF, evV, evKV, evI, evC, evP, seqF, setS, varOf, parS, augS, augI, appS, extS, putS, frzL, frzR, bindT, bindL, wipeR, kz, bz, oneI, dBin, dCmp, cLt, cLe, cGt, cGe, cEq_int, cNe_int, dIdx, dBi, bLen, bAbs, bInt, bSum, bMin, bMax, bAny, bAll, bSorted, bList, bTuple, isiD, noneB, fewD, dSl, Option.bind_some, Option.map_some, Option.bind_none, Option.map_none, isKey, keyD, zipD, intsD_map, boolsD_map, boolsD_mapf, intsD_mapf, Option.isSome_some, Nat.reduceLeDiff, Nat.zero_le, List.foldl_nil, List.length_cons, List.length_nil, List.length_map, List.map_cons, List.map_nil, List.cons_append, List.nil_append, List.replicate, List.getElem?_cons_zero, List.getElem?_cons_succ, List.set_cons_zero, List.set_cons_succ, ↓reduceIte, Bool.not_true, Bool.not_false, and_self, and_true, true_and, Bool.false_eq_true, reduceCtorEq, decide_true, decide_false, Nat.reduceAdd, Nat.reduceLT, Nat.reduceSub, Nat.reduceEqDiff, ne_eq, not_true_eq_false, not_false_eq_true, Option.some.injEq, exists_eq_left, Int.reduceNeg, beq_self_eq_true, Nat.zero_add, Nat.add_zero, l0, realD_int, e, hc, any_false]
  · subst hp
    rw [if_neg (by decide)] at tp
    have e : decide (¬ 2 * sumF (cnt ws 2) (wbl ws 2) = powI (2 + 1) ws.length - cnt ws 2 0) = false := by simpa using tp
    simp only [q7, e_non, e_bl, e_int, e_str, e_var, e_glob, e_bin, e_neg, e_cmp, e_isN, e_notN, e_chain, e_and_, e_or_, e_not_, e_ite, e_tup, e_lst, e_idx, e_sl, e_rev, e_sset, e_rng, e_call, e_callv, e_blt, e_isi, e_dis, e_dget, z_frz, z_app, z_ext, z_drop, z_set, z_setT, z_par, z_aug, z_put, z_augPut, z_ite, z_ret, z_retN, z_pass, z_brk, z_cont, z_never, z_nil, z_cons, evAnd, evOr, evF, evV, evKV, evI, evC, evP, seqF, setS, varOf, parS, augS, augI, appS, extS, putS, frzL, frzR, bindT, bindL, wipeR, kz, bz, oneI, dBin, dCmp, cLt, cLe, cGt, cGe, cEq_int, cNe_int, dIdx, dBi, bLen, bAbs, bInt, bSum, bMin, bMax, bAny, bAll, bSorted, bList, bTuple, isiD, noneB, fewD, dSl, Option.bind_some, Option.map_some, Option.bind_none, Option.map_none, isKey, keyD, zipD, intsD_map, boolsD_map, boolsD_mapf, intsD_mapf, Option.isSome_some, Nat.reduceLeDiff, Nat.zero_le, List.foldl_nil, List.length_cons, List.length_nil, List.length_map, List.map_cons, List.map_nil, List.cons_append, List.nil_append, List.replicate, List.getElem?_cons_zero, List.getElem?_cons_succ, List.set_cons_zero, List.set_cons_succ, ↓reduceIte, Bool.not_true, Bool.not_false, and_self, and_true, true_and, Bool.false_eq_true, reduceCtorEq, decide_true, decide_false, Nat.reduceAdd, Nat.reduceLT, Nat.reduceSub, Nat.reduceEqDiff, ne_eq, not_true_eq_false, not_false_eq_true, Option.some.injEq, exists_eq_left, Int.reduceNeg, beq_self_eq_true, Nat.zero_add, Nat.add_zero, l0, realD_int, mo, e, hc, any_false, show ¬ ((2 : Int) = 1) by decide]
theorem s8 (k : Nat) (x0 x3 x4 x5 x6 x7 x8 x9 x10 x11 x12 x13 x14 x15 x16 x17 x18 x19 x20 x21 x22 x23 : Option (Bool × PyData)) (ds : List Int) (tn : Int) (hd : Dr ds) (hl : ds.length = 200) (ht : 0 ≤ tn ∧ tn < 5) : evS (glI inf) (C (k + 20)) 100000 q8 [x0, some (false, lI ds), some (false, .int tn), x3, x4, x5, x6, x7, x8, x9, x10, x11, x12, x13, x14, x15, x16, x17, x18, x19, x20, x21, x22, x23] =
    some (.nx [x0, some (false, lI ds), some (false, .int tn), x3, x4, x5, x6, x7, x8, x9, some (false, .int (2 + dv ds (70 + tn) % 5)), x11, x12, x13, x14, x15, x16, x17, x18, x19, x20, x21, x22, x23]) := by
  have a1 := at_draw ds hl (70 + tn) (by omega) (by omega)
  simp only [lI, q8, e_non, e_bl, e_int, e_str, e_var, e_glob, e_bin, e_neg, e_cmp, e_isN, e_notN, e_chain, e_and_, e_or_, e_not_, e_ite, e_tup, e_lst, e_idx, e_sl, e_rev, e_sset, e_rng, e_call, e_callv, e_blt, e_isi, e_dis, e_dget, z_frz, z_app, z_ext, z_drop, z_set, z_setT, z_par, z_aug, z_put, z_augPut, z_ite, z_ret, z_retN, z_pass, z_brk, z_cont, z_never, z_nil, z_cons, evAnd, evOr, evF, evV, evKV, evI, evC, evP, seqF, setS, varOf, parS, augS, augI, appS, extS, putS, frzL, frzR, bindT, bindL, wipeR, kz, bz, oneI, dBin, dCmp, cLt, cLe, cGt, cGe, cEq_int, cNe_int, dIdx, dBi, bLen, bAbs, bInt, bSum, bMin, bMax, bAny, bAll, bSorted, bList, bTuple, isiD, noneB, fewD, dSl, Option.bind_some, Option.map_some, Option.bind_none, Option.map_none, isKey, keyD, zipD, intsD_map, boolsD_map, boolsD_mapf, intsD_mapf, Option.isSome_some, Nat.reduceLeDiff, Nat.zero_le, List.foldl_nil, List.length_cons, List.length_nil, List.length_map, List.map_cons, List.map_nil, List.cons_append, List.nil_append, List.replicate, List.getElem?_cons_zero, List.getElem?_cons_succ, List.set_cons_zero, List.set_cons_succ, ↓reduceIte, Bool.not_true, Bool.not_false, and_self, and_true, true_and, Bool.false_eq_true, reduceCtorEq, decide_true, decide_false, Nat.reduceAdd, Nat.reduceLT, Nat.reduceSub, Nat.reduceEqDiff, ne_eq, not_true_eq_false, not_false_eq_true, Option.some.injEq, exists_eq_left, Int.reduceNeg, beq_self_eq_true, Nat.zero_add, Nat.add_zero, a1, Int.reduceLT]
theorem s9 (k : Nat) (x0 x1 x2 x3 x4 x5 x6 x7 x8 x9 x11 x12 x13 x14 x15 x16 x17 x18 x19 x20 x21 x22 x23 : Option (Bool × PyData)) (t : Int) (ht2 : 2 ≤ t ∧ t ≤ 6) : evS (glI inf) (C (k + 20)) 100000 q9 [x0, x1, x2, x3, x4, x5, x6, x7, x8, x9, some (false, .int t), x11, x12, x13, x14, x15, x16, x17, x18, x19, x20, x21, x22, x23] =
    some (.nx [x0, x1, x2, x3, x4, x5, x6, x7, x8, x9, some (false, .int t), x11, x12, x13, x14, x15, x16, x17, x18, x19, x20, x21, x22, x23]) := by
  simp only [q9, e_non, e_bl, e_int, e_str, e_var, e_glob, e_bin, e_neg, e_cmp, e_isN, e_notN, e_chain, e_and_, e_or_, e_not_, e_ite, e_tup, e_lst, e_idx, e_sl, e_rev, e_sset, e_rng, e_call, e_callv, e_blt, e_isi, e_dis, e_dget, z_frz, z_app, z_ext, z_drop, z_set, z_setT, z_par, z_aug, z_put, z_augPut, z_ite, z_ret, z_retN, z_pass, z_brk, z_cont, z_never, z_nil, z_cons, evAnd, evOr, evF, evV, evKV, evI, evC, evP, seqF, setS, varOf, parS, augS, augI, appS, extS, putS, frzL, frzR, bindT, bindL, wipeR, kz, bz, oneI, dBin, dCmp, cLt, cLe, cGt, cGe, cEq_int, cNe_int, dIdx, dBi, bLen, bAbs, bInt, bSum, bMin, bMax, bAny, bAll, bSorted, bList, bTuple, isiD, noneB, fewD, dSl, Option.bind_some, Option.map_some, Option.bind_none, Option.map_none, isKey, keyD, zipD, intsD_map, boolsD_map, boolsD_mapf, intsD_mapf, Option.isSome_some, Nat.reduceLeDiff, Nat.zero_le, List.foldl_nil, List.length_cons, List.length_nil, List.length_map, List.map_cons, List.map_nil, List.cons_append, List.nil_append, List.replicate, List.getElem?_cons_zero, List.getElem?_cons_succ, List.set_cons_zero, List.set_cons_succ, ↓reduceIte, Bool.not_true, Bool.not_false, and_self, and_true, true_and, Bool.false_eq_true, reduceCtorEq, decide_true, decide_false, Nat.reduceAdd, Nat.reduceLT, Nat.reduceSub, Nat.reduceEqDiff, ne_eq, not_true_eq_false, not_false_eq_true, Option.some.injEq, exists_eq_left, Int.reduceNeg, beq_self_eq_true, Nat.zero_add, Nat.add_zero]
theorem s10 (k : Nat) (x0 x1 x2 x3 x4 x6 x7 x8 x9 x11 x12 x13 x14 x15 x16 x17 x18 x19 x20 x21 x22 x23 : Option (Bool × PyData)) (ws : List Int) (hw : Wk8 ws) (h40 : ∀ w ∈ ws, w ≤ 40) (h6 : ws.length ≤ 6) (t : Int) (ht2 : 2 ≤ t ∧ t ≤ 6) : evS (glI inf) (C (k + 20)) 100000 q10 [x0, x1, x2, x3, x4, some (false, tpI ws), x6, x7, x8, x9, some (false, .int t), x11, x12, x13, x14, x15, x16, x17, x18, x19, x20, x21, x22, x23] =
    some (.nx [x0, x1, x2, x3, x4, some (false, tpI ws), x6, x7, x8, x9, some (false, .int t), some (false, tpI (ws.map (t * ·))), x12, x13, x14, x15, x16, x17, x18, x19, x20, x21, x22, x23]) := by
  have hc := e_comp0 (gl := glI inf) (c := C (k + 20)) (ρ := [x0, x1, x2, x3, x4, some (false, tpI ws), x6, x7, x8, x9, some (false, .int t), x11, x12, x13, x14, x15, x16, x17, x18, x19, x20, x21, x22, x23]) (elt := .bin .mul (.var 10) (.var 9)) (tg := .nm 9) (it := .over (.var 5)) (own := [("weight", 9)]) (b := false) (l := ws) .int (fun a => .int (t * a))
    (by simp only [e_non, e_bl, e_int, e_str, e_var, e_glob, e_bin, e_neg, e_cmp, e_isN, e_notN, e_chain, e_and_, e_or_, e_not_, e_ite, e_tup, e_lst, e_idx, e_sl, e_rev, e_sset, e_rng, e_call, e_callv, e_blt, e_isi, e_dis, e_dget, z_frz, z_app, z_ext, z_drop, z_set, z_setT, z_par, z_aug, z_put, z_augPut, z_ite, z_ret, z_retN, z_pass, z_brk, z_cont, z_never, z_nil, z_cons, evAnd, evOr, evF, evV, evKV, evI, evC, evP, seqF, setS, varOf, parS, augS, augI, appS, extS, putS, frzL, frzR, bindT, bindL, wipeR, kz, bz, oneI, dBin, dCmp, cLt, cLe, cGt, cGe, cEq_int, cNe_int, dIdx, dBi, bLen, bAbs, bInt, bSum, bMin, bMax, bAny, bAll, bSorted, bList, bTuple, isiD, noneB, fewD, dSl, Option.bind_some, Option.map_some, Option.bind_none, Option.map_none, isKey, keyD, zipD, intsD_map, boolsD_map, boolsD_mapf, intsD_mapf, Option.isSome_some, Nat.reduceLeDiff, Nat.zero_le, List.foldl_nil, List.length_cons, List.length_nil, List.length_map, List.map_cons, List.map_nil, List.cons_append, List.nil_append, List.replicate, List.getElem?_cons_zero, List.getElem?_cons_succ, List.set_cons_zero, List.set_cons_succ, ↓reduceIte, Bool.not_true, Bool.not_false, and_self, and_true, true_and, Bool.false_eq_true, reduceCtorEq, decide_true, decide_false, Nat.reduceAdd, Nat.reduceLT, Nat.reduceSub, Nat.reduceEqDiff, ne_eq, not_true_eq_false, not_false_eq_true, Option.some.injEq, exists_eq_left, Int.reduceNeg, beq_self_eq_true, Nat.zero_add, Nat.add_zero, tpI, beq_iff_eq]) (by omega) (fun x hx => by
      have h1 := h40 x hx
      have h2 := (hw.rng x hx).1
      have mo := mul_ok (i := t) (j := x) (by omega) (by omega) (by omega) (by omega)
      simp only [List.map_cons, List.map_nil, wipeR, bindT, List.set_cons_succ, List.set_cons_zero, List.length_cons, List.length_nil, Nat.reduceAdd, Nat.reduceLT, ↓reduceIte, Option.some.injEq, exists_eq_left']
      simp only [e_non, e_bl, e_int, e_str, e_var, e_glob, e_bin, e_neg, e_cmp, e_isN, e_notN, e_chain, e_and_, e_or_, e_not_, e_ite, e_tup, e_lst, e_idx, e_sl, e_rev, e_sset, e_rng, e_call, e_callv, e_blt, e_isi, e_dis, e_dget, z_frz, z_app, z_ext, z_drop, z_set, z_setT, z_par, z_aug, z_put, z_augPut, z_ite, z_ret, z_retN, z_pass, z_brk, z_cont, z_never, z_nil, z_cons, evAnd, evOr, evF, evV, evKV, evI, evC, evP, seqF, setS, varOf, parS, augS, augI, appS, extS, putS, frzL, frzR, bindT, bindL, wipeR, kz, bz, oneI, dBin, dCmp, cLt, cLe, cGt, cGe, cEq_int, cNe_int, dIdx, dBi, bLen, bAbs, bInt, bSum, bMin, bMax, bAny, bAll, bSorted, bList, bTuple, isiD, noneB, fewD, dSl, Option.bind_some, Option.map_some, Option.bind_none, Option.map_none, isKey, keyD, zipD, intsD_map, boolsD_map, boolsD_mapf, intsD_mapf, Option.isSome_some, Nat.reduceLeDiff, Nat.zero_le, List.foldl_nil, List.length_cons, List.length_nil, List.length_map, List.map_cons, List.map_nil, List.cons_append, List.nil_append, List.replicate, List.getElem?_cons_zero, List.getElem?_cons_succ, List.set_cons_zero, List.set_cons_succ, ↓reduceIte, Bool.not_true, Bool.not_false, and_self, and_true, true_and, Bool.false_eq_true, reduceCtorEq, decide_true, decide_false, Nat.reduceAdd, Nat.reduceLT, Nat.reduceSub, Nat.reduceEqDiff, ne_eq, not_true_eq_false, not_false_eq_true, Option.some.injEq, exists_eq_left, Int.reduceNeg, beq_self_eq_true, Nat.zero_add, Nat.add_zero, mo])
  have e : tpI (ws.map (t * ·)) = .tuple (ws.map fun a => .int (t * a)) := by unfold tpI; rw [List.map_map]; rfl
  simp only [q10, e_non, e_bl, e_int, e_str, e_var, e_glob, e_bin, e_neg, e_cmp, e_isN, e_notN, e_chain, e_and_, e_or_, e_not_, e_ite, e_tup, e_lst, e_idx, e_sl, e_rev, e_sset, e_rng, e_call, e_callv, e_blt, e_isi, e_dis, e_dget, z_frz, z_app, z_ext, z_drop, z_set, z_setT, z_par, z_aug, z_put, z_augPut, z_ite, z_ret, z_retN, z_pass, z_brk, z_cont, z_never, z_nil, z_cons, evAnd, evOr, evF, evV, evKV, evI, evC, evP, seqF, setS, varOf, parS, augS, augI, appS, extS, putS, frzL, frzR, bindT, bindL, wipeR, kz, bz, oneI, dBin, dCmp, cLt, cLe, cGt, cGe, cEq_int, cNe_int, dIdx, dBi, bLen, bAbs, bInt, bSum, bMin, bMax, bAny, bAll, bSorted, bList, bTuple, isiD, noneB, fewD, dSl, Option.bind_some, Option.map_some, Option.bind_none, Option.map_none, isKey, keyD, zipD, intsD_map, boolsD_map, boolsD_mapf, intsD_mapf, Option.isSome_some, Nat.reduceLeDiff, Nat.zero_le, List.foldl_nil, List.length_cons, List.length_nil, List.length_map, List.map_cons, List.map_nil, List.cons_append, List.nil_append, List.replicate, List.getElem?_cons_zero, List.getElem?_cons_succ, List.set_cons_zero, List.set_cons_succ, ↓reduceIte, Bool.not_true, Bool.not_false, and_self, and_true, true_and, Bool.false_eq_true, reduceCtorEq, decide_true, decide_false, Nat.reduceAdd, Nat.reduceLT, Nat.reduceSub, Nat.reduceEqDiff, ne_eq, not_true_eq_false, not_false_eq_true, Option.some.injEq, exists_eq_left, Int.reduceNeg, beq_self_eq_true, Nat.zero_add, Nat.add_zero, hc, e]
theorem s11 (k : Nat) (x0 x1 x2 x3 x6 x7 x8 x9 x12 x13 x14 x15 x16 x17 x18 x19 x20 x21 x22 x23 : Option (Bool × PyData)) (p : Int) (hp : p = 1 ∨ p = 2) (ws : List Int) (hw : Wk8 ws) (h40 : ∀ w ∈ ws, w ≤ 40) (h6 : ws.length ≤ 6) (t : Int) (ht2 : 2 ≤ t ∧ t ≤ 6) : evS (glI inf) (C (k + 20)) 100000 q11 [x0, x1, x2, x3, some (false, .int p), some (false, tpI ws), x6, x7, x8, x9, some (false, .int t), some (false, tpI (ws.map (t * ·))), x12, x13, x14, x15, x16, x17, x18, x19, x20, x21, x22, x23] =
    some (.nx [x0, x1, x2, x3, some (false, .int p), some (false, tpI ws), x6, x7, x8, x9, some (false, .int t), some (false, tpI (ws.map (t * ·))), x12, x13, x14, x15, x16, x17, x18, x19, x20, x21, x22, x23]) := by
  have c1 := c_weighable (k + 17) ws p hw hp
  have c2 := c_weighable (k + 17) (ws.map (t * ·)) p (wk_heavy hw h40 ht2) hp
  rw [wbl_scale (by omega)] at c2
  have hwl := wbl_len ws p hw
  have hc := e_comp0 (gl := glI inf) (c := C (k + 20)) (ρ := [x0, x1, x2, x3, some (false, .int p), some (false, tpI ws), x6, x7, x8, x9, some (false, .int t), some (false, tpI (ws.map (t * ·))), x12, x13, x14, x15, x16, x17, x18, x19, x20, x21, x22, x23]) (elt := .bin .mul (.var 10) (.var 12)) (tg := .nm 12) (it := .over (.call "weighable" (.cons (.var 5) (.cons (.var 4) .nil)))) (own := [("amount", 12)]) (b := false) (l := wbl ws p) .int (fun a => .int (t * a))
    (by
      simp only [tpI] at c1 ⊢
      simp only [e_non, e_bl, e_int, e_str, e_var, e_glob, e_bin, e_neg, e_cmp, e_isN, e_notN, e_chain, e_and_, e_or_, e_not_, e_ite, e_tup, e_lst, e_idx, e_sl, e_rev, e_sset, e_rng, e_call, e_callv, e_blt, e_isi, e_dis, e_dget, z_frz, z_app, z_ext, z_drop, z_set, z_setT, z_par, z_aug, z_put, z_augPut, z_ite, z_ret, z_retN, z_pass, z_brk, z_cont, z_never, z_nil, z_cons, evAnd, evOr, evF, evV, evKV, evI, evC, evP, seqF, setS, varOf, parS, augS, augI, appS, extS, putS, frzL, frzR, bindT, bindL, wipeR, kz, bz, oneI, dBin, dCmp, cLt, cLe, cGt, cGe, cEq_int, cNe_int, dIdx, dBi, bLen, bAbs, bInt, bSum, bMin, bMax, bAny, bAll, bSorted, bList, bTuple, isiD, noneB, fewD, dSl, Option.bind_some, Option.map_some, Option.bind_none, Option.map_none, isKey, keyD, zipD, intsD_map, boolsD_map, boolsD_mapf, intsD_mapf, Option.isSome_some, Nat.reduceLeDiff, Nat.zero_le, List.foldl_nil, List.length_cons, List.length_nil, List.length_map, List.map_cons, List.map_nil, List.cons_append, List.nil_append, List.replicate, List.getElem?_cons_zero, List.getElem?_cons_succ, List.set_cons_zero, List.set_cons_succ, ↓reduceIte, Bool.not_true, Bool.not_false, and_self, and_true, true_and, Bool.false_eq_true, reduceCtorEq, decide_true, decide_false, Nat.reduceAdd, Nat.reduceLT, Nat.reduceSub, Nat.reduceEqDiff, ne_eq, not_true_eq_false, not_false_eq_true, Option.some.injEq, exists_eq_left, Int.reduceNeg, beq_self_eq_true, Nat.zero_add, Nat.add_zero, c1, beq_iff_eq]) (by omega) (fun x hx => by
      have hb := wbl_bd (B := 40) (fun w h => ⟨(hw.rng w h).1, h40 w h⟩) hx
      have mo := mul_ok (i := t) (j := x) (by omega) (by omega) (by omega) (by omega)
      simp only [List.map_cons, List.map_nil, wipeR, bindT, List.set_cons_succ, List.set_cons_zero, List.length_cons, List.length_nil, Nat.reduceAdd, Nat.reduceLT, ↓reduceIte, Option.some.injEq, exists_eq_left']
      simp only [e_non, e_bl, e_int, e_str, e_var, e_glob, e_bin, e_neg, e_cmp, e_isN, e_notN, e_chain, e_and_, e_or_, e_not_, e_ite, e_tup, e_lst, e_idx, e_sl, e_rev, e_sset, e_rng, e_call, e_callv, e_blt, e_isi, e_dis, e_dget, z_frz, z_app, z_ext, z_drop, z_set, z_setT, z_par, z_aug, z_put, z_augPut, z_ite, z_ret, z_retN, z_pass, z_brk, z_cont, z_never, z_nil, z_cons, evAnd, evOr, evF, evV, evKV, evI, evC, evP, seqF, setS, varOf, parS, augS, augI, appS, extS, putS, frzL, frzR, bindT, bindL, wipeR, kz, bz, oneI, dBin, dCmp, cLt, cLe, cGt, cGe, cEq_int, cNe_int, dIdx, dBi, bLen, bAbs, bInt, bSum, bMin, bMax, bAny, bAll, bSorted, bList, bTuple, isiD, noneB, fewD, dSl, Option.bind_some, Option.map_some, Option.bind_none, Option.map_none, isKey, keyD, zipD, intsD_map, boolsD_map, boolsD_mapf, intsD_mapf, Option.isSome_some, Nat.reduceLeDiff, Nat.zero_le, List.foldl_nil, List.length_cons, List.length_nil, List.length_map, List.map_cons, List.map_nil, List.cons_append, List.nil_append, List.replicate, List.getElem?_cons_zero, List.getElem?_cons_succ, List.set_cons_zero, List.set_cons_succ, ↓reduceIte, Bool.not_true, Bool.not_false, and_self, and_true, true_and, Bool.false_eq_true, reduceCtorEq, decide_true, decide_false, Nat.reduceAdd, Nat.reduceLT, Nat.reduceSub, Nat.reduceEqDiff, ne_eq, not_true_eq_false, not_false_eq_true, Option.some.injEq, exists_eq_left, Int.reduceNeg, beq_self_eq_true, Nat.zero_add, Nat.add_zero, mo])
  have e : cNe (tpI ((wbl ws p).map (t * ·))) (.tuple ((wbl ws p).map fun a => .int (t * a))) = some false := by
    have := cNe_tI ((wbl ws p).map (t * ·)) ((wbl ws p).map (t * ·))
    simp only [ne_eq, not_true_eq_false, decide_false] at this
    rw [show tpI ((wbl ws p).map (t * ·)) = .tuple ((wbl ws p).map fun a => .int (t * a)) by unfold tpI; rw [List.map_map]; rfl] at this ⊢
    exact this
  simp only [q11, e_non, e_bl, e_int, e_str, e_var, e_glob, e_bin, e_neg, e_cmp, e_isN, e_notN, e_chain, e_and_, e_or_, e_not_, e_ite, e_tup, e_lst, e_idx, e_sl, e_rev, e_sset, e_rng, e_call, e_callv, e_blt, e_isi, e_dis, e_dget, z_frz, z_app, z_ext, z_drop, z_set, z_setT, z_par, z_aug, z_put, z_augPut, z_ite, z_ret, z_retN, z_pass, z_brk, z_cont, z_never, z_nil, z_cons, evAnd, evOr, evF, evV, evKV, evI, evC, evP, seqF, setS, varOf, parS, augS, augI, appS, extS, putS, frzL, frzR, bindT, bindL, wipeR, kz, bz, oneI, dBin, dCmp, cLt, cLe, cGt, cGe, cEq_int, cNe_int, dIdx, dBi, bLen, bAbs, bInt, bSum, bMin, bMax, bAny, bAll, bSorted, bList, bTuple, isiD, noneB, fewD, dSl, Option.bind_some, Option.map_some, Option.bind_none, Option.map_none, isKey, keyD, zipD, intsD_map, boolsD_map, boolsD_mapf, intsD_mapf, Option.isSome_some, Nat.reduceLeDiff, Nat.zero_le, List.foldl_nil, List.length_cons, List.length_nil, List.length_map, List.map_cons, List.map_nil, List.cons_append, List.nil_append, List.replicate, List.getElem?_cons_zero, List.getElem?_cons_succ, List.set_cons_zero, List.set_cons_succ, ↓reduceIte, Bool.not_true, Bool.not_false, and_self, and_true, true_and, Bool.false_eq_true, reduceCtorEq, decide_true, decide_false, Nat.reduceAdd, Nat.reduceLT, Nat.reduceSub, Nat.reduceEqDiff, ne_eq, not_true_eq_false, not_false_eq_true, Option.some.injEq, exists_eq_left, Int.reduceNeg, beq_self_eq_true, Nat.zero_add, Nat.add_zero, c2, hc, e]
theorem s12 (k : Nat) (x0 x3 x6 x7 x8 x9 x10 x11 x12 x13 x14 x15 x16 x17 x18 x19 x20 x21 x22 x23 : Option (Bool × PyData)) (ds : List Int) (tn : Int) (hd : Dr ds) (hl : ds.length = 200) (ht : 0 ≤ tn ∧ tn < 5) (p : Int) (hp : p = 1 ∨ p = 2) (ws : List Int) (hw : Wk8 ws) (h40 : ∀ w ∈ ws, w ≤ 40) (h6 : ws.length ≤ 6) : evS (glI inf) (C (k + 20)) 100000 q12 [x0, some (false, lI ds), some (false, .int tn), x3, some (false, .int p), some (false, tpI ws), x6, x7, x8, x9, x10, x11, x12, x13, x14, x15, x16, x17, x18, x19, x20, x21, x22, x23] =
    some (.nx [x0, some (false, lI ds), some (false, .int tn), x3, some (false, .int p), some (false, tpI ws), x6, x7, x8, x9, x10, x11, some (false, .int (amt ds tn ws p)), x13, x14, x15, x16, x17, x18, x19, x20, x21, x22, x23]) := by
  have c1 := c_weighable (k + 17) ws p hw hp
  have a1 := at_draw ds hl (80 + tn) (by omega) (by omega)
  have hpos := wbl_pos hw p
  have a2 := at_amt ds tn ws p hpos (dv_nn hd _).1
  have hpos' : (0 : Int) < ((wbl ws p).length : Int) := by omega
  simp only [tpI] at c1 ⊢
  simp only [lI, q12, e_non, e_bl, e_int, e_str, e_var, e_glob, e_bin, e_neg, e_cmp, e_isN, e_notN, e_chain, e_and_, e_or_, e_not_, e_ite, e_tup, e_lst, e_idx, e_sl, e_rev, e_sset, e_rng, e_call, e_callv, e_blt, e_isi, e_dis, e_dget, z_frz, z_app, z_ext, z_drop, z_set, z_setT, z_par, z_aug, z_put, z_augPut, z_ite, z_ret, z_retN, z_pass, z_brk, z_cont, z_never, z_nil, z_cons, evAnd, evOr, evF, evV, evKV, evI, evC, evP, seqF, setS, varOf, parS, augS, augI, appS, extS, putS, frzL, frzR, bindT, bindL, wipeR, kz, bz, oneI, dBin, dCmp, cLt, cLe, cGt, cGe, cEq_int, cNe_int, dIdx, dBi, bLen, bAbs, bInt, bSum, bMin, bMax, bAny, bAll, bSorted, bList, bTuple, isiD, noneB, fewD, dSl, Option.bind_some, Option.map_some, Option.bind_none, Option.map_none, isKey, keyD, zipD, intsD_map, boolsD_map, boolsD_mapf, intsD_mapf, Option.isSome_some, Nat.reduceLeDiff, Nat.zero_le, List.foldl_nil, List.length_cons, List.length_nil, List.length_map, List.map_cons, List.map_nil, List.cons_append, List.nil_append, List.replicate, List.getElem?_cons_zero, List.getElem?_cons_succ, List.set_cons_zero, List.set_cons_succ, ↓reduceIte, Bool.not_true, Bool.not_false, and_self, and_true, true_and, Bool.false_eq_true, reduceCtorEq, decide_true, decide_false, Nat.reduceAdd, Nat.reduceLT, Nat.reduceSub, Nat.reduceEqDiff, ne_eq, not_true_eq_false, not_false_eq_true, Option.some.injEq, exists_eq_left, Int.reduceNeg, beq_self_eq_true, Nat.zero_add, Nat.add_zero, c1, a1, a2, hpos']
theorem s13 (k : Nat) (x0 x1 x2 x3 x6 x7 x8 x9 x13 x14 x15 x16 x17 x18 x19 x20 x21 x22 x23 : Option (Bool × PyData)) (p : Int) (hp : p = 1 ∨ p = 2) (ws : List Int) (hw : Wk8 ws) (h40 : ∀ w ∈ ws, w ≤ 40) (h6 : ws.length ≤ 6) (t : Int) (ht2 : 2 ≤ t ∧ t ≤ 6) (a : Int) (ha : a ∈ wbl ws p) : evS (glI inf) (C (k + 20)) 100000 q13 [x0, x1, x2, x3, some (false, .int p), some (false, tpI ws), x6, x7, x8, x9, some (false, .int t), some (false, tpI (ws.map (t * ·))), some (false, .int a), x13, x14, x15, x16, x17, x18, x19, x20, x21, x22, x23] =
    some (.nx [x0, x1, x2, x3, some (false, .int p), some (false, tpI ws), x6, x7, x8, x9, some (false, .int t), some (false, tpI (ws.map (t * ·))), some (false, .int a), x13, x14, x15, x16, x17, x18, x19, x20, x21, x22, x23]) := by
  have hb := wbl_bd (B := 40) (fun w h => ⟨(hw.rng w h).1, h40 w h⟩) ha
  have hc := (wbl_mem.mp ha).2
  have tl := ta_bd ht2 hb h6
  have c1 := c_ways_to (k + 17) ws p a hw hp hb.1 (by omega)
  have c2 := c_ways_to (k + 17) (ws.map (t * ·)) p (t * a) (wk_heavy hw h40 ht2) hp tl.1 (by omega)
  have c3 := c_first_way (k + 8) ws p a hw hp hb.1 (by omega) hc
  have c4 := c_first_way (k + 8) (ws.map (t * ·)) p (t * a) (wk_heavy hw h40 ht2) hp tl.1 (by omega) (by rw [cnt_scale p t (by omega)]; exact hc)
  rw [fv_cnt] at c1 c2
  rw [cnt_scale p t (by omega)] at c2
  rw [first_scale p t (by omega)] at c4
  have mo := mul_ok (i := t) (j := a) (by omega) (by omega) (by omega) (by omega)
  simp only [q13, e_non, e_bl, e_int, e_str, e_var, e_glob, e_bin, e_neg, e_cmp, e_isN, e_notN, e_chain, e_and_, e_or_, e_not_, e_ite, e_tup, e_lst, e_idx, e_sl, e_rev, e_sset, e_rng, e_call, e_callv, e_blt, e_isi, e_dis, e_dget, z_frz, z_app, z_ext, z_drop, z_set, z_setT, z_par, z_aug, z_put, z_augPut, z_ite, z_ret, z_retN, z_pass, z_brk, z_cont, z_never, z_nil, z_cons, evAnd, evOr, evF, evV, evKV, evI, evC, evP, seqF, setS, varOf, parS, augS, augI, appS, extS, putS, frzL, frzR, bindT, bindL, wipeR, kz, bz, oneI, dBin, dCmp, cLt, cLe, cGt, cGe, cEq_int, cNe_int, dIdx, dBi, bLen, bAbs, bInt, bSum, bMin, bMax, bAny, bAll, bSorted, bList, bTuple, isiD, noneB, fewD, dSl, Option.bind_some, Option.map_some, Option.bind_none, Option.map_none, isKey, keyD, zipD, intsD_map, boolsD_map, boolsD_mapf, intsD_mapf, Option.isSome_some, Nat.reduceLeDiff, Nat.zero_le, List.foldl_nil, List.length_cons, List.length_nil, List.length_map, List.map_cons, List.map_nil, List.cons_append, List.nil_append, List.replicate, List.getElem?_cons_zero, List.getElem?_cons_succ, List.set_cons_zero, List.set_cons_succ, ↓reduceIte, Bool.not_true, Bool.not_false, and_self, and_true, true_and, Bool.false_eq_true, reduceCtorEq, decide_true, decide_false, Nat.reduceAdd, Nat.reduceLT, Nat.reduceSub, Nat.reduceEqDiff, ne_eq, not_true_eq_false, not_false_eq_true, Option.some.injEq, exists_eq_left, Int.reduceNeg, beq_self_eq_true, Nat.zero_add, Nat.add_zero, mo, c1, c2, c3, c4, cNe_tI]
theorem s14 (k : Nat) (x0 x1 x2 x3 x6 x7 x8 x9 x10 x11 x13 x14 x15 x16 x17 x18 x19 x20 x21 x22 x23 : Option (Bool × PyData)) (p : Int) (hp : p = 1 ∨ p = 2) (ws : List Int) (hw : Wk8 ws) (h40 : ∀ w ∈ ws, w ≤ 40) (h6 : ws.length ≤ 6) (a : Int) (ha : a ∈ wbl ws p) : evS (glI inf) (C (k + 20)) 100000 q14 [x0, x1, x2, x3, some (false, .int p), some (false, tpI ws), x6, x7, x8, x9, x10, x11, some (false, .int a), x13, x14, x15, x16, x17, x18, x19, x20, x21, x22, x23] =
    some (.nx [x0, x1, x2, x3, some (false, .int p), some (false, tpI ws), x6, x7, x8, x9, x10, x11, some (false, .int a), some (false, tpI (fewW ws p a)), x14, x15, x16, x17, x18, x19, x20, x21, x22, x23]) := by
  have hb := wbl_bd (B := 40) (fun w h => ⟨(hw.rng w h).1, h40 w h⟩) ha
  have c1 := c_fewest_used (k + 17) ws p a hw hp hb.1 (by omega) (wbl_mem.mp ha).2
  simp only [q14, e_non, e_bl, e_int, e_str, e_var, e_glob, e_bin, e_neg, e_cmp, e_isN, e_notN, e_chain, e_and_, e_or_, e_not_, e_ite, e_tup, e_lst, e_idx, e_sl, e_rev, e_sset, e_rng, e_call, e_callv, e_blt, e_isi, e_dis, e_dget, z_frz, z_app, z_ext, z_drop, z_set, z_setT, z_par, z_aug, z_put, z_augPut, z_ite, z_ret, z_retN, z_pass, z_brk, z_cont, z_never, z_nil, z_cons, evAnd, evOr, evF, evV, evKV, evI, evC, evP, seqF, setS, varOf, parS, augS, augI, appS, extS, putS, frzL, frzR, bindT, bindL, wipeR, kz, bz, oneI, dBin, dCmp, cLt, cLe, cGt, cGe, cEq_int, cNe_int, dIdx, dBi, bLen, bAbs, bInt, bSum, bMin, bMax, bAny, bAll, bSorted, bList, bTuple, isiD, noneB, fewD, dSl, Option.bind_some, Option.map_some, Option.bind_none, Option.map_none, isKey, keyD, zipD, intsD_map, boolsD_map, boolsD_mapf, intsD_mapf, Option.isSome_some, Nat.reduceLeDiff, Nat.zero_le, List.foldl_nil, List.length_cons, List.length_nil, List.length_map, List.map_cons, List.map_nil, List.cons_append, List.nil_append, List.replicate, List.getElem?_cons_zero, List.getElem?_cons_succ, List.set_cons_zero, List.set_cons_succ, ↓reduceIte, Bool.not_true, Bool.not_false, and_self, and_true, true_and, Bool.false_eq_true, reduceCtorEq, decide_true, decide_false, Nat.reduceAdd, Nat.reduceLT, Nat.reduceSub, Nat.reduceEqDiff, ne_eq, not_true_eq_false, not_false_eq_true, Option.some.injEq, exists_eq_left, Int.reduceNeg, beq_self_eq_true, Nat.zero_add, Nat.add_zero, c1]
theorem s15 (k : Nat) (x0 x1 x2 x3 x6 x7 x8 x9 x14 x15 x16 x17 x18 x19 x20 x21 x22 x23 : Option (Bool × PyData)) (p : Int) (hp : p = 1 ∨ p = 2) (ws : List Int) (hw : Wk8 ws) (h40 : ∀ w ∈ ws, w ≤ 40) (h6 : ws.length ≤ 6) (t : Int) (ht2 : 2 ≤ t ∧ t ≤ 6) (a : Int) (ha : a ∈ wbl ws p) : evS (glI inf) (C (k + 20)) 100000 q15 [x0, x1, x2, x3, some (false, .int p), some (false, tpI ws), x6, x7, x8, x9, some (false, .int t), some (false, tpI (ws.map (t * ·))), some (false, .int a), some (false, tpI (fewW ws p a)), x14, x15, x16, x17, x18, x19, x20, x21, x22, x23] =
    some (.nx [x0, x1, x2, x3, some (false, .int p), some (false, tpI ws), x6, x7, x8, x9, some (false, .int t), some (false, tpI (ws.map (t * ·))), some (false, .int a), some (false, tpI (fewW ws p a)), x14, x15, x16, x17, x18, x19, x20, x21, x22, x23]) := by
  have hb := wbl_bd (B := 40) (fun w h => ⟨(hw.rng w h).1, h40 w h⟩) ha
  have hc := (wbl_mem.mp ha).2
  have tl := ta_bd ht2 hb h6
  have c2 := c_ways_to (k + 17) (ws.map (t * ·)) p (t * a + 1) (wk_heavy hw h40 ht2) hp (by omega) (by omega)
  rw [fv_cnt, cnt_off p ht2] at c2
  have c4 := c_fewest_used (k + 17) (ws.map (t * ·)) p (t * a) (wk_heavy hw h40 ht2) hp tl.1 (by omega) (by rw [cnt_scale p t (by omega)]; exact hc)
  have e4 : fewW (ws.map (t * ·)) p (t * a) = fewW ws p a := by unfold fewW; rw [few_scale (by omega), mk_get (by omega)]
  rw [e4] at c4
  obtain ⟨b, hbb⟩ := few_some hc
  obtain ⟨i1, i2, i3⟩ := fewL_inv p ws a b hbb
  have ef : fewW ws p a = b.2 := by unfold fewW; rw [hbb]; rfl
  have c5 := c_way_fault (k + 17) ws (fewW ws p a) p a hw hp hb.1 (by omega) (by rw [ef]; exact i1) (by rw [ef]; exact i2) (by rw [ef]; exact i3)
  have mo := mul_ok (i := t) (j := a) (by omega) (by omega) (by omega) (by omega)
  simp only [q15, e_non, e_bl, e_int, e_str, e_var, e_glob, e_bin, e_neg, e_cmp, e_isN, e_notN, e_chain, e_and_, e_or_, e_not_, e_ite, e_tup, e_lst, e_idx, e_sl, e_rev, e_sset, e_rng, e_call, e_callv, e_blt, e_isi, e_dis, e_dget, z_frz, z_app, z_ext, z_drop, z_set, z_setT, z_par, z_aug, z_put, z_augPut, z_ite, z_ret, z_retN, z_pass, z_brk, z_cont, z_never, z_nil, z_cons, evAnd, evOr, evF, evV, evKV, evI, evC, evP, seqF, setS, varOf, parS, augS, augI, appS, extS, putS, frzL, frzR, bindT, bindL, wipeR, kz, bz, oneI, dBin, dCmp, cLt, cLe, cGt, cGe, cEq_int, cNe_int, dIdx, dBi, bLen, bAbs, bInt, bSum, bMin, bMax, bAny, bAll, bSorted, bList, bTuple, isiD, noneB, fewD, dSl, Option.bind_some, Option.map_some, Option.bind_none, Option.map_none, isKey, keyD, zipD, intsD_map, boolsD_map, boolsD_mapf, intsD_mapf, Option.isSome_some, Nat.reduceLeDiff, Nat.zero_le, List.foldl_nil, List.length_cons, List.length_nil, List.length_map, List.map_cons, List.map_nil, List.cons_append, List.nil_append, List.replicate, List.getElem?_cons_zero, List.getElem?_cons_succ, List.set_cons_zero, List.set_cons_succ, ↓reduceIte, Bool.not_true, Bool.not_false, and_self, and_true, true_and, Bool.false_eq_true, reduceCtorEq, decide_true, decide_false, Nat.reduceAdd, Nat.reduceLT, Nat.reduceSub, Nat.reduceEqDiff, ne_eq, not_true_eq_false, not_false_eq_true, Option.some.injEq, exists_eq_left, Int.reduceNeg, beq_self_eq_true, Nat.zero_add, Nat.add_zero, mo, c2, c4, c5, cNe_tI]
theorem s16 (k : Nat) (x0 x1 x2 x3 x4 x6 x7 x8 x9 x10 x11 x12 x13 x14 x15 x16 x17 x18 x19 x20 x21 x22 x23 : Option (Bool × PyData)) (ws : List Int) (hw : Wk8 ws) (h40 : ∀ w ∈ ws, w ≤ 40) (h6 : ws.length ≤ 6) : evS (glI inf) (C (k + 20)) 100000 q16 [x0, x1, x2, x3, x4, some (false, tpI ws), x6, x7, x8, x9, x10, x11, x12, x13, x14, x15, x16, x17, x18, x19, x20, x21, x22, x23] =
    some (.nx [x0, x1, x2, x3, x4, some (false, tpI ws), x6, x7, x8, x9, x10, x11, x12, x13, some (false, tpI (wbl ws 2)), x15, x16, x17, x18, x19, x20, x21, x22, x23]) := by
  have c1 := c_weighable (k + 17) ws 2 hw (.inr rfl)
  simp only [q16, e_non, e_bl, e_int, e_str, e_var, e_glob, e_bin, e_neg, e_cmp, e_isN, e_notN, e_chain, e_and_, e_or_, e_not_, e_ite, e_tup, e_lst, e_idx, e_sl, e_rev, e_sset, e_rng, e_call, e_callv, e_blt, e_isi, e_dis, e_dget, z_frz, z_app, z_ext, z_drop, z_set, z_setT, z_par, z_aug, z_put, z_augPut, z_ite, z_ret, z_retN, z_pass, z_brk, z_cont, z_never, z_nil, z_cons, evAnd, evOr, evF, evV, evKV, evI, evC, evP, seqF, setS, varOf, parS, augS, augI, appS, extS, putS, frzL, frzR, bindT, bindL, wipeR, kz, bz, oneI, dBin, dCmp, cLt, cLe, cGt, cGe, cEq_int, cNe_int, dIdx, dBi, bLen, bAbs, bInt, bSum, bMin, bMax, bAny, bAll, bSorted, bList, bTuple, isiD, noneB, fewD, dSl, Option.bind_some, Option.map_some, Option.bind_none, Option.map_none, isKey, keyD, zipD, intsD_map, boolsD_map, boolsD_mapf, intsD_mapf, Option.isSome_some, Nat.reduceLeDiff, Nat.zero_le, List.foldl_nil, List.length_cons, List.length_nil, List.length_map, List.map_cons, List.map_nil, List.cons_append, List.nil_append, List.replicate, List.getElem?_cons_zero, List.getElem?_cons_succ, List.set_cons_zero, List.set_cons_succ, ↓reduceIte, Bool.not_true, Bool.not_false, and_self, and_true, true_and, Bool.false_eq_true, reduceCtorEq, decide_true, decide_false, Nat.reduceAdd, Nat.reduceLT, Nat.reduceSub, Nat.reduceEqDiff, ne_eq, not_true_eq_false, not_false_eq_true, Option.some.injEq, exists_eq_left, Int.reduceNeg, beq_self_eq_true, Nat.zero_add, Nat.add_zero, c1]
theorem s17 (k : Nat) (x0 x1 x2 x3 x4 x6 x7 x8 x9 x10 x11 x12 x13 x15 x16 x17 x18 x19 x20 x21 x22 x23 : Option (Bool × PyData)) (ws : List Int) (hw : Wk8 ws) (h40 : ∀ w ∈ ws, w ≤ 40) (h6 : ws.length ≤ 6) : evS (glI inf) (C (k + 20)) 100000 q17 [x0, x1, x2, x3, x4, some (false, tpI ws), x6, x7, x8, x9, x10, x11, x12, x13, some (false, tpI (wbl ws 2)), x15, x16, x17, x18, x19, x20, x21, x22, x23] =
    some (.nx [x0, x1, x2, x3, x4, some (false, tpI ws), x6, x7, x8, x9, x10, x11, x12, x13, some (false, tpI (wbl ws 2)), x15, x16, x17, x18, x19, x20, x21, x22, x23]) := by
  have c1 := c_weighable (k + 17) ws 1 hw (.inl rfl)
  have hwl := wbl_len ws 1 hw
  obtain ⟨n1, g1, g2, g3⟩ := gap_ex ws 1 hw
  obtain ⟨n2, f1, f2, f3⟩ := gap_ex ws 2 hw
  have c2 := c_gap (k + 16) ws 1 n1 hw (.inl rfl) g2 g3 g1
  have c3 := c_gap (k + 16) ws 2 n2 hw (.inr rfl) f2 f3 f1
  have le := gap_le g2 f3
  have e : decide (1 + (n2 : Int) < 1 + (n1 : Int)) = false := by simp; omega
  have hc := e_comp0 (gl := glI inf) (c := C (k + 20)) (ρ := [x0, x1, x2, x3, x4, some (false, tpI ws), x6, x7, x8, x9, x10, x11, x12, x13, some (false, tpI (wbl ws 2)), x15, x16, x17, x18, x19, x20, x21, x22, x23]) (elt := .cmp .notin (.var 23) (.var 14)) (tg := .nm 23) (it := .over (.call "weighable" (.cons (.var 5) (.cons (.int 1) .nil)))) (own := [("one", 23)]) (b := false) (l := wbl ws 1) .int (fun a => .bool false)
    (by
      simp only [tpI] at c1 ⊢
      simp only [e_non, e_bl, e_int, e_str, e_var, e_glob, e_bin, e_neg, e_cmp, e_isN, e_notN, e_chain, e_and_, e_or_, e_not_, e_ite, e_tup, e_lst, e_idx, e_sl, e_rev, e_sset, e_rng, e_call, e_callv, e_blt, e_isi, e_dis, e_dget, z_frz, z_app, z_ext, z_drop, z_set, z_setT, z_par, z_aug, z_put, z_augPut, z_ite, z_ret, z_retN, z_pass, z_brk, z_cont, z_never, z_nil, z_cons, evAnd, evOr, evF, evV, evKV, evI, evC, evP, seqF, setS, varOf, parS, augS, augI, appS, extS, putS, frzL, frzR, bindT, bindL, wipeR, kz, bz, oneI, dBin, dCmp, cLt, cLe, cGt, cGe, cEq_int, cNe_int, dIdx, dBi, bLen, bAbs, bInt, bSum, bMin, bMax, bAny, bAll, bSorted, bList, bTuple, isiD, noneB, fewD, dSl, Option.bind_some, Option.map_some, Option.bind_none, Option.map_none, isKey, keyD, zipD, intsD_map, boolsD_map, boolsD_mapf, intsD_mapf, Option.isSome_some, Nat.reduceLeDiff, Nat.zero_le, List.foldl_nil, List.length_cons, List.length_nil, List.length_map, List.map_cons, List.map_nil, List.cons_append, List.nil_append, List.replicate, List.getElem?_cons_zero, List.getElem?_cons_succ, List.set_cons_zero, List.set_cons_succ, ↓reduceIte, Bool.not_true, Bool.not_false, and_self, and_true, true_and, Bool.false_eq_true, reduceCtorEq, decide_true, decide_false, Nat.reduceAdd, Nat.reduceLT, Nat.reduceSub, Nat.reduceEqDiff, ne_eq, not_true_eq_false, not_false_eq_true, Option.some.injEq, exists_eq_left, Int.reduceNeg, beq_self_eq_true, Nat.zero_add, Nat.add_zero, c1, beq_iff_eq]) (by omega) (fun x hx => by
      have hx2 : x ∈ wbl ws 2 := by
        obtain ⟨h1, h2⟩ := wbl_mem.mp hx
        have := cnt_le 2 (by decide) ws x
        exact wbl_mem.mpr ⟨h1, by omega⟩
      have e1 : (!decide (x ∈ wbl ws 2)) = false := by simpa using hx2
      simp only [List.map_cons, List.map_nil, wipeR, bindT, List.set_cons_succ, List.set_cons_zero, List.length_cons, List.length_nil, Nat.reduceAdd, Nat.reduceLT, ↓reduceIte, Option.some.injEq, exists_eq_left']
      simp only [e_non, e_bl, e_int, e_str, e_var, e_glob, e_bin, e_neg, e_cmp, e_isN, e_notN, e_chain, e_and_, e_or_, e_not_, e_ite, e_tup, e_lst, e_idx, e_sl, e_rev, e_sset, e_rng, e_call, e_callv, e_blt, e_isi, e_dis, e_dget, z_frz, z_app, z_ext, z_drop, z_set, z_setT, z_par, z_aug, z_put, z_augPut, z_ite, z_ret, z_retN, z_pass, z_brk, z_cont, z_never, z_nil, z_cons, evAnd, evOr, evF, evV, evKV, evI, evC, evP, seqF, setS, varOf, parS, augS, augI, appS, extS, putS, frzL, frzR, bindT, bindL, wipeR, kz, bz, oneI, dBin, dCmp, cLt, cLe, cGt, cGe, cEq_int, cNe_int, dIdx, dBi, bLen, bAbs, bInt, bSum, bMin, bMax, bAny, bAll, bSorted, bList, bTuple, isiD, noneB, fewD, dSl, Option.bind_some, Option.map_some, Option.bind_none, Option.map_none, isKey, keyD, zipD, intsD_map, boolsD_map, boolsD_mapf, intsD_mapf, Option.isSome_some, Nat.reduceLeDiff, Nat.zero_le, List.foldl_nil, List.length_cons, List.length_nil, List.length_map, List.map_cons, List.map_nil, List.cons_append, List.nil_append, List.replicate, List.getElem?_cons_zero, List.getElem?_cons_succ, List.set_cons_zero, List.set_cons_succ, ↓reduceIte, Bool.not_true, Bool.not_false, and_self, and_true, true_and, Bool.false_eq_true, reduceCtorEq, decide_true, decide_false, Nat.reduceAdd, Nat.reduceLT, Nat.reduceSub, Nat.reduceEqDiff, ne_eq, not_true_eq_false, not_false_eq_true, Option.some.injEq, exists_eq_left, Int.reduceNeg, beq_self_eq_true, Nat.zero_add, Nat.add_zero, notin_int, e1])
  simp only [q17, e_non, e_bl, e_int, e_str, e_var, e_glob, e_bin, e_neg, e_cmp, e_isN, e_notN, e_chain, e_and_, e_or_, e_not_, e_ite, e_tup, e_lst, e_idx, e_sl, e_rev, e_sset, e_rng, e_call, e_callv, e_blt, e_isi, e_dis, e_dget, z_frz, z_app, z_ext, z_drop, z_set, z_setT, z_par, z_aug, z_put, z_augPut, z_ite, z_ret, z_retN, z_pass, z_brk, z_cont, z_never, z_nil, z_cons, evAnd, evOr, evF, evV, evKV, evI, evC, evP, seqF, setS, varOf, parS, augS, augI, appS, extS, putS, frzL, frzR, bindT, bindL, wipeR, kz, bz, oneI, dBin, dCmp, cLt, cLe, cGt, cGe, cEq_int, cNe_int, dIdx, dBi, bLen, bAbs, bInt, bSum, bMin, bMax, bAny, bAll, bSorted, bList, bTuple, isiD, noneB, fewD, dSl, Option.bind_some, Option.map_some, Option.bind_none, Option.map_none, isKey, keyD, zipD, intsD_map, boolsD_map, boolsD_mapf, intsD_mapf, Option.isSome_some, Nat.reduceLeDiff, Nat.zero_le, List.foldl_nil, List.length_cons, List.length_nil, List.length_map, List.map_cons, List.map_nil, List.cons_append, List.nil_append, List.replicate, List.getElem?_cons_zero, List.getElem?_cons_succ, List.set_cons_zero, List.set_cons_succ, ↓reduceIte, Bool.not_true, Bool.not_false, and_self, and_true, true_and, Bool.false_eq_true, reduceCtorEq, decide_true, decide_false, Nat.reduceAdd, Nat.reduceLT, Nat.reduceSub, Nat.reduceEqDiff, ne_eq, not_true_eq_false, not_false_eq_true, Option.some.injEq, exists_eq_left, Int.reduceNeg, beq_self_eq_true, Nat.zero_add, Nat.add_zero, c2, c3, e, hc, any_false]
theorem s18 (k : Nat) (x0 x3 x4 x6 x7 x8 x9 x10 x11 x12 x13 x14 x15 x16 x17 x18 x19 x20 x21 x22 x23 : Option (Bool × PyData)) (ds : List Int) (tn : Int) (hd : Dr ds) (hl : ds.length = 200) (ht : 0 ≤ tn ∧ tn < 5) (ws : List Int) (hw : Wk8 ws) (h40 : ∀ w ∈ ws, w ≤ 40) (h6 : ws.length ≤ 6) (v : Int) (vs : List Int) (hv : ws = vs ++ [v]) : evS (glI inf) (C (k + 20)) 100000 q18 [x0, some (false, lI ds), some (false, .int tn), x3, x4, some (false, tpI ws), x6, x7, x8, x9, x10, x11, x12, x13, x14, x15, x16, x17, x18, x19, x20, x21, x22, x23] =
    some (.nx [x0, some (false, lI ds), some (false, .int tn), x3, x4, some (false, tpI ws), x6, x7, x8, x9, x10, x11, x12, x13, x14, some (false, .int (v + 1 + dv ds (90 + tn) % 30)), x16, x17, x18, x19, x20, x21, x22, x23]) := by
  have a1 := at_draw ds hl (90 + tn) (by omega) (by omega)
  have a2 : L2.atI (ws.map PyData.int) (-1) = some (.int v) := by rw [hv, List.map_append]; exact atI_last _ _
  simp only [tpI]
  simp only [lI, q18, e_non, e_bl, e_int, e_str, e_var, e_glob, e_bin, e_neg, e_cmp, e_isN, e_notN, e_chain, e_and_, e_or_, e_not_, e_ite, e_tup, e_lst, e_idx, e_sl, e_rev, e_sset, e_rng, e_call, e_callv, e_blt, e_isi, e_dis, e_dget, z_frz, z_app, z_ext, z_drop, z_set, z_setT, z_par, z_aug, z_put, z_augPut, z_ite, z_ret, z_retN, z_pass, z_brk, z_cont, z_never, z_nil, z_cons, evAnd, evOr, evF, evV, evKV, evI, evC, evP, seqF, setS, varOf, parS, augS, augI, appS, extS, putS, frzL, frzR, bindT, bindL, wipeR, kz, bz, oneI, dBin, dCmp, cLt, cLe, cGt, cGe, cEq_int, cNe_int, dIdx, dBi, bLen, bAbs, bInt, bSum, bMin, bMax, bAny, bAll, bSorted, bList, bTuple, isiD, noneB, fewD, dSl, Option.bind_some, Option.map_some, Option.bind_none, Option.map_none, isKey, keyD, zipD, intsD_map, boolsD_map, boolsD_mapf, intsD_mapf, Option.isSome_some, Nat.reduceLeDiff, Nat.zero_le, List.foldl_nil, List.length_cons, List.length_nil, List.length_map, List.map_cons, List.map_nil, List.cons_append, List.nil_append, List.replicate, List.getElem?_cons_zero, List.getElem?_cons_succ, List.set_cons_zero, List.set_cons_succ, ↓reduceIte, Bool.not_true, Bool.not_false, and_self, and_true, true_and, Bool.false_eq_true, reduceCtorEq, decide_true, decide_false, Nat.reduceAdd, Nat.reduceLT, Nat.reduceSub, Nat.reduceEqDiff, ne_eq, not_true_eq_false, not_false_eq_true, Option.some.injEq, exists_eq_left, Int.reduceNeg, beq_self_eq_true, Nat.zero_add, Nat.add_zero, a1, a2, Int.reduceLT]
theorem s19 (k : Nat) (x0 x1 x2 x3 x4 x5 x6 x7 x8 x9 x10 x11 x12 x13 x14 x16 x17 x18 x19 x20 x21 x22 x23 : Option (Bool × PyData)) (w : Int) : evS (glI inf) (C (k + 20)) 100000 q19 [x0, x1, x2, x3, x4, x5, x6, x7, x8, x9, x10, x11, x12, x13, x14, some (false, .int w), x16, x17, x18, x19, x20, x21, x22, x23] =
    some (.nx [x0, x1, x2, x3, x4, x5, x6, x7, x8, x9, x10, x11, x12, x13, x14, some (false, .int w), x16, x17, x18, x19, x20, x21, x22, x23]) := by
  simp only [q19, e_non, e_bl, e_int, e_str, e_var, e_glob, e_bin, e_neg, e_cmp, e_isN, e_notN, e_chain, e_and_, e_or_, e_not_, e_ite, e_tup, e_lst, e_idx, e_sl, e_rev, e_sset, e_rng, e_call, e_callv, e_blt, e_isi, e_dis, e_dget, z_frz, z_app, z_ext, z_drop, z_set, z_setT, z_par, z_aug, z_put, z_augPut, z_ite, z_ret, z_retN, z_pass, z_brk, z_cont, z_never, z_nil, z_cons, evAnd, evOr, evF, evV, evKV, evI, evC, evP, seqF, setS, varOf, parS, augS, augI, appS, extS, putS, frzL, frzR, bindT, bindL, wipeR, kz, bz, oneI, dBin, dCmp, cLt, cLe, cGt, cGe, cEq_int, cNe_int, dIdx, dBi, bLen, bAbs, bInt, bSum, bMin, bMax, bAny, bAll, bSorted, bList, bTuple, isiD, noneB, fewD, dSl, Option.bind_some, Option.map_some, Option.bind_none, Option.map_none, isKey, keyD, zipD, intsD_map, boolsD_map, boolsD_mapf, intsD_mapf, Option.isSome_some, Nat.reduceLeDiff, Nat.zero_le, List.foldl_nil, List.length_cons, List.length_nil, List.length_map, List.map_cons, List.map_nil, List.cons_append, List.nil_append, List.replicate, List.getElem?_cons_zero, List.getElem?_cons_succ, List.set_cons_zero, List.set_cons_succ, ↓reduceIte, Bool.not_true, Bool.not_false, and_self, and_true, true_and, Bool.false_eq_true, reduceCtorEq, decide_true, decide_false, Nat.reduceAdd, Nat.reduceLT, Nat.reduceSub, Nat.reduceEqDiff, ne_eq, not_true_eq_false, not_false_eq_true, Option.some.injEq, exists_eq_left, Int.reduceNeg, beq_self_eq_true, Nat.zero_add, Nat.add_zero]
theorem s20 (k : Nat) (x0 x1 x2 x3 x4 x6 x7 x8 x9 x10 x11 x12 x13 x14 x16 x17 x18 x19 x20 x21 x22 x23 : Option (Bool × PyData)) (ws : List Int) (hw : Wk8 ws) (h40 : ∀ w ∈ ws, w ≤ 40) (h6 : ws.length ≤ 6) (w : Int) : evS (glI inf) (C (k + 20)) 100000 q20 [x0, x1, x2, x3, x4, some (false, tpI ws), x6, x7, x8, x9, x10, x11, x12, x13, x14, some (false, .int w), x16, x17, x18, x19, x20, x21, x22, x23] =
    some (.nx [x0, x1, x2, x3, x4, some (false, tpI ws), x6, x7, x8, x9, x10, x11, x12, x13, x14, some (false, .int w), some (false, tpI (ws ++ [w])), x17, x18, x19, x20, x21, x22, x23]) := by
  have e : tpI (ws ++ [w]) = .tuple (ws.map PyData.int ++ [PyData.int w]) := by unfold tpI; rw [List.map_append]; rfl
  have hl : ws.length + 1 ≤ 100000 := by omega
  rw [e]
  simp only [tpI]
  simp only [q20, e_non, e_bl, e_int, e_str, e_var, e_glob, e_bin, e_neg, e_cmp, e_isN, e_notN, e_chain, e_and_, e_or_, e_not_, e_ite, e_tup, e_lst, e_idx, e_sl, e_rev, e_sset, e_rng, e_call, e_callv, e_blt, e_isi, e_dis, e_dget, z_frz, z_app, z_ext, z_drop, z_set, z_setT, z_par, z_aug, z_put, z_augPut, z_ite, z_ret, z_retN, z_pass, z_brk, z_cont, z_never, z_nil, z_cons, evAnd, evOr, evF, evV, evKV, evI, evC, evP, seqF, setS, varOf, parS, augS, augI, appS, extS, putS, frzL, frzR, bindT, bindL, wipeR, kz, bz, oneI, dBin, dCmp, cLt, cLe, cGt, cGe, cEq_int, cNe_int, dIdx, dBi, bLen, bAbs, bInt, bSum, bMin, bMax, bAny, bAll, bSorted, bList, bTuple, isiD, noneB, fewD, dSl, Option.bind_some, Option.map_some, Option.bind_none, Option.map_none, isKey, keyD, zipD, intsD_map, boolsD_map, boolsD_mapf, intsD_mapf, Option.isSome_some, Nat.reduceLeDiff, Nat.zero_le, List.foldl_nil, List.length_cons, List.length_nil, List.length_map, List.map_cons, List.map_nil, List.cons_append, List.nil_append, List.replicate, List.getElem?_cons_zero, List.getElem?_cons_succ, List.set_cons_zero, List.set_cons_succ, ↓reduceIte, Bool.not_true, Bool.not_false, and_self, and_true, true_and, Bool.false_eq_true, reduceCtorEq, decide_true, decide_false, Nat.reduceAdd, Nat.reduceLT, Nat.reduceSub, Nat.reduceEqDiff, ne_eq, not_true_eq_false, not_false_eq_true, Option.some.injEq, exists_eq_left, Int.reduceNeg, beq_self_eq_true, Nat.zero_add, Nat.add_zero, hl]
theorem s21 (k : Nat) (x0 x1 x2 x3 x4 x5 x6 x7 x8 x9 x10 x11 x12 x13 x14 x15 x17 x18 x19 x20 x21 x22 x23 : Option (Bool × PyData)) (ws : List Int) : evS (glI inf) (C (k + 20)) 100000 q21 [x0, x1, x2, x3, x4, x5, x6, x7, x8, x9, x10, x11, x12, x13, x14, x15, some (false, tpI ws), x17, x18, x19, x20, x21, x22, x23] =
    some (.nx [x0, x1, x2, x3, x4, x5, x6, x7, x8, x9, x10, x11, x12, x13, x14, x15, some (false, tpI ws), x17, x18, x19, x20, x21, x22, x23]) := by
  simp only [q21, e_non, e_bl, e_int, e_str, e_var, e_glob, e_bin, e_neg, e_cmp, e_isN, e_notN, e_chain, e_and_, e_or_, e_not_, e_ite, e_tup, e_lst, e_idx, e_sl, e_rev, e_sset, e_rng, e_call, e_callv, e_blt, e_isi, e_dis, e_dget, z_frz, z_app, z_ext, z_drop, z_set, z_setT, z_par, z_aug, z_put, z_augPut, z_ite, z_ret, z_retN, z_pass, z_brk, z_cont, z_never, z_nil, z_cons, evAnd, evOr, evF, evV, evKV, evI, evC, evP, seqF, setS, varOf, parS, augS, augI, appS, extS, putS, frzL, frzR, bindT, bindL, wipeR, kz, bz, oneI, dBin, dCmp, cLt, cLe, cGt, cGe, cEq_int, cNe_int, dIdx, dBi, bLen, bAbs, bInt, bSum, bMin, bMax, bAny, bAll, bSorted, bList, bTuple, isiD, noneB, fewD, dSl, Option.bind_some, Option.map_some, Option.bind_none, Option.map_none, isKey, keyD, zipD, intsD_map, boolsD_map, boolsD_mapf, intsD_mapf, Option.isSome_some, Nat.reduceLeDiff, Nat.zero_le, List.foldl_nil, List.length_cons, List.length_nil, List.length_map, List.map_cons, List.map_nil, List.cons_append, List.nil_append, List.replicate, List.getElem?_cons_zero, List.getElem?_cons_succ, List.set_cons_zero, List.set_cons_succ, ↓reduceIte, Bool.not_true, Bool.not_false, and_self, and_true, true_and, Bool.false_eq_true, reduceCtorEq, decide_true, decide_false, Nat.reduceAdd, Nat.reduceLT, Nat.reduceSub, Nat.reduceEqDiff, ne_eq, not_true_eq_false, not_false_eq_true, Option.some.injEq, exists_eq_left, Int.reduceNeg, beq_self_eq_true, Nat.zero_add, Nat.add_zero, tpI]
theorem s22 (k : Nat) (x0 x1 x2 x3 x5 x7 x8 x9 x10 x11 x13 x14 x19 x20 x21 x22 x23 x17 x18 : Option (Bool × PyData)) (p : Int) (hp : p = 1 ∨ p = 2) (ws : List Int) (a w : Int) (hm : Wk8 (ws ++ [w])) (ha : 1 ≤ a ∧ a ≤ 1000) (hw1 : 1 ≤ w ∧ w ≤ 1000) : ∃ y z, evS (glI inf) (C (k + 20)) 100000 q22 [x0, x1, x2, x3, some (false, .int p), x5, some (false, dct (countsL ws p)), x7, x8, x9, x10, x11, some (false, .int a), x13, x14, some (false, .int w), some (false, tpI (ws ++ [w])), x17, x18, x19, x20, x21, x22, x23] =
    some (.nx [x0, x1, x2, x3, some (false, .int p), x5, some (false, dct (countsL ws p)), x7, x8, x9, x10, x11, some (false, .int a), x13, x14, some (false, .int w), some (false, tpI (ws ++ [w])), y, z, x19, x20, x21, x22, x23]) := by
  have z := z_for (gl := glI inf) (c := C (k + 20)) (n := 100000) (ρ := [x0, x1, x2, x3, some (false, .int p), x5, some (false, dct (countsL ws p)), x7, x8, x9, x10, x11, some (false, .int a), x13, x14, some (false, .int w), some (false, tpI (ws ++ [w])), x17, x18, x19, x20, x21, x22, x23]) (t := .nm 17) (it := .over (.tup (.cons (.var 12) (.cons (.var 15) (.cons (.bin .add (.var 12) (.var 15)) .nil))))) (b := (.cons (.set 18 (.bin .add (.bin .add (.dget (.var 6) (.var 17) (.int 0)) (.dget (.var 6) (.bin .sub (.var 17) (.var 15)) (.int 0))) (.ite (.cmp .eq (.var 4) (.int 2)) (.dget (.var 6) (.bin .add (.var 17) (.var 15)) (.int 0)) (.int 0))))   (.cons (.frz [18])   (.cons (.ite (.cmp .ne (.call "ways_to" (.cons (.var 16) (.cons (.var 4) (.cons (.var 17) .nil)))) (.var 18)) (.cons (.ret (.bl false))   .nil) .nil)   .nil)))) (l := [a, w, a + w]) .int
    (fun rest ρ => ∃ y z, ρ = [x0, x1, x2, x3, some (false, .int p), x5, some (false, dct (countsL ws p)), x7, x8, x9, x10, x11, some (false, .int a), x13, x14, some (false, .int w), some (false, tpI (ws ++ [w])), y, z, x19, x20, x21, x22, x23] ∧ ∀ x ∈ rest, 1 ≤ x ∧ x ≤ 2000)
    (by simp only [e_non, e_bl, e_int, e_str, e_var, e_glob, e_bin, e_neg, e_cmp, e_isN, e_notN, e_chain, e_and_, e_or_, e_not_, e_ite, e_tup, e_lst, e_idx, e_sl, e_rev, e_sset, e_rng, e_call, e_callv, e_blt, e_isi, e_dis, e_dget, z_frz, z_app, z_ext, z_drop, z_set, z_setT, z_par, z_aug, z_put, z_augPut, z_ite, z_ret, z_retN, z_pass, z_brk, z_cont, z_never, z_nil, z_cons, evAnd, evOr, evF, evV, evKV, evI, evC, evP, seqF, setS, varOf, parS, augS, augI, appS, extS, putS, frzL, frzR, bindT, bindL, wipeR, kz, bz, oneI, dBin, dCmp, cLt, cLe, cGt, cGe, cEq_int, cNe_int, dIdx, dBi, bLen, bAbs, bInt, bSum, bMin, bMax, bAny, bAll, bSorted, bList, bTuple, isiD, noneB, fewD, dSl, Option.bind_some, Option.map_some, Option.bind_none, Option.map_none, isKey, keyD, zipD, intsD_map, boolsD_map, boolsD_mapf, intsD_mapf, Option.isSome_some, Nat.reduceLeDiff, Nat.zero_le, List.foldl_nil, List.length_cons, List.length_nil, List.length_map, List.map_cons, List.map_nil, List.cons_append, List.nil_append, List.replicate, List.getElem?_cons_zero, List.getElem?_cons_succ, List.set_cons_zero, List.set_cons_succ, ↓reduceIte, Bool.not_true, Bool.not_false, and_self, and_true, true_and, Bool.false_eq_true, reduceCtorEq, decide_true, decide_false, Nat.reduceAdd, Nat.reduceLT, Nat.reduceSub, Nat.reduceEqDiff, ne_eq, not_true_eq_false, not_false_eq_true, Option.some.injEq, exists_eq_left, Int.reduceNeg, beq_self_eq_true, Nat.zero_add, Nat.add_zero]) ⟨x17, x18, rfl, fun x hx => by simp at hx; omega⟩ ?_
  · obtain ⟨ρ', h1, y, z, h2, _⟩ := z
    subst h2
    exact ⟨y, z, h1⟩
  · rintro q r ρ ⟨y, z, rfl, hb⟩
    have hq := hb q (List.mem_cons_self ..)
    have c1 := c_ways_to (k + 17) (ws ++ [w]) p q hm hp hq.1 (by omega)
    rw [fv_cnt, cnt_snoc] at c1
    have l1 := look0 ws p q
    have l2 := look0 ws p (q - w)
    have l3 := look0 ws p (q + w)
    rcases hp with hp | hp
    · subst hp
      simp only [if_true] at c1
      have e : decide (¬ cnt ws 1 q + cnt ws 1 (q - w) = cnt ws 1 q + cnt ws 1 (q - w) + 0) = false := by simp
      refine ⟨_, _, by simp only [e_non, e_bl, e_int, e_str, e_var, e_glob, e_bin, e_neg, e_cmp, e_isN, e_notN, e_chain, e_and_, e_or_, e_not_, e_ite, e_tup, e_lst, e_idx, e_sl, e_rev, e_sset, e_rng, e_call, e_callv, e_blt, e_isi, e_dis, e_dget, z_frz, z_app, z_ext, z_drop, z_set, z_setT, z_par, z_aug, z_put, z_augPut, z_ite, z_ret, z_retN, z_pass, z_brk, z_cont, z_never, z_nil, z_cons, evAnd, evOr, evF, evV, evKV, evI, evC, evP, seqF, setS, varOf, parS, augS, augI, appS, extS, putS, frzL, frzR, bindT, bindL, wipeR, kz, bz, oneI, dBin, dCmp, cLt, cLe, cGt, cGe, cEq_int, cNe_int, dIdx, dBi, bLen, bAbs, bInt, bSum, bMin, bMax, bAny, bAll, bSorted, bList, bTuple, isiD, noneB, fewD, dSl, Option.bind_some, Option.map_some, Option.bind_none, Option.map_none, isKey, keyD, zipD, intsD_map, boolsD_map, boolsD_mapf, intsD_mapf, Option.isSome_some, Nat.reduceLeDiff, Nat.zero_le, List.foldl_nil, List.length_cons, List.length_nil, List.length_map, List.map_cons, List.map_nil, List.cons_append, List.nil_append, List.replicate, List.getElem?_cons_zero, List.getElem?_cons_succ, List.set_cons_zero, List.set_cons_succ, ↓reduceIte, Bool.not_true, Bool.not_false, and_self, and_true, true_and, Bool.false_eq_true, reduceCtorEq, decide_true, decide_false, Nat.reduceAdd, Nat.reduceLT, Nat.reduceSub, Nat.reduceEqDiff, ne_eq, not_true_eq_false, not_false_eq_true, Option.some.injEq, exists_eq_left, Int.reduceNeg, beq_self_eq_true, Nat.zero_add, Nat.add_zero]; rfl, .inl (by simp only [e_non, e_bl, e_int, e_str, e_var, e_glob, e_bin, e_neg, e_cmp, e_isN, e_notN, e_chain, e_and_, e_or_, e_not_, e_ite, e_tup, e_lst, e_idx, e_sl, e_rev, e_sset, e_rng, e_call, e_callv, e_blt, e_isi, e_dis, e_dget, z_frz, z_app, z_ext, z_drop, z_set, z_setT, z_par, z_aug, z_put, z_augPut, z_ite, z_ret, z_retN, z_pass, z_brk, z_cont, z_never, z_nil, z_cons, evAnd, evOr, evF, evV, evKV, evI, evC, evP, seqF, setS, varOf, parS, augS, augI, appS, extS, putS, frzL, frzR, bindT, bindL, wipeR, kz, bz, oneI, dBin, dCmp, cLt, cLe, cGt, cGe, cEq_int, cNe_int, dIdx, dBi, bLen, bAbs, bInt, bSum, bMin, bMax, bAny, bAll, bSorted, bList, bTuple, isiD, noneB, fewD, dSl, Option.bind_some, Option.map_some, Option.bind_none, Option.map_none, isKey, keyD, zipD, intsD_map, boolsD_map, boolsD_mapf, intsD_mapf, Option.isSome_some, Nat.reduceLeDiff, Nat.zero_le, List.foldl_nil, List.length_cons, List.length_nil, List.length_map, List.map_cons, List.map_nil, List.cons_append, List.nil_append, List.replicate, List.getElem?_cons_zero, List.getElem?_cons_succ, List.set_cons_zero, List.set_cons_succ, ↓reduceIte, Bool.not_true, Bool.not_false, and_self, and_true, true_and, Bool.false_eq_true, reduceCtorEq, decide_true, decide_false, Nat.reduceAdd, Nat.reduceLT, Nat.reduceSub, Nat.reduceEqDiff, ne_eq, not_true_eq_false, not_false_eq_true, Option.some.injEq, exists_eq_left, Int.reduceNeg, beq_self_eq_true, Nat.zero_add, Nat.add_zero, l1, l2, realD_int, c1, e, show ¬ ((1 : Int) = 2) by decide]; rfl), _, _, rfl, fun x hx => hb x (List.mem_cons_of_mem _ hx)⟩
    · subst hp
      simp only [show ¬ ((2 : Int) = 1) by decide, if_false] at c1
      have e : decide (¬ cnt ws 2 (q + w) + cnt ws 2 q + cnt ws 2 (q - w) = cnt ws 2 q + cnt ws 2 (q - w) + cnt ws 2 (q + w)) = false := by simp; omega
      refine ⟨_, _, by simp only [e_non, e_bl, e_int, e_str, e_var, e_glob, e_bin, e_neg, e_cmp, e_isN, e_notN, e_chain, e_and_, e_or_, e_not_, e_ite, e_tup, e_lst, e_idx, e_sl, e_rev, e_sset, e_rng, e_call, e_callv, e_blt, e_isi, e_dis, e_dget, z_frz, z_app, z_ext, z_drop, z_set, z_setT, z_par, z_aug, z_put, z_augPut, z_ite, z_ret, z_retN, z_pass, z_brk, z_cont, z_never, z_nil, z_cons, evAnd, evOr, evF, evV, evKV, evI, evC, evP, seqF, setS, varOf, parS, augS, augI, appS, extS, putS, frzL, frzR, bindT, bindL, wipeR, kz, bz, oneI, dBin, dCmp, cLt, cLe, cGt, cGe, cEq_int, cNe_int, dIdx, dBi, bLen, bAbs, bInt, bSum, bMin, bMax, bAny, bAll, bSorted, bList, bTuple, isiD, noneB, fewD, dSl, Option.bind_some, Option.map_some, Option.bind_none, Option.map_none, isKey, keyD, zipD, intsD_map, boolsD_map, boolsD_mapf, intsD_mapf, Option.isSome_some, Nat.reduceLeDiff, Nat.zero_le, List.foldl_nil, List.length_cons, List.length_nil, List.length_map, List.map_cons, List.map_nil, List.cons_append, List.nil_append, List.replicate, List.getElem?_cons_zero, List.getElem?_cons_succ, List.set_cons_zero, List.set_cons_succ, ↓reduceIte, Bool.not_true, Bool.not_false, and_self, and_true, true_and, Bool.false_eq_true, reduceCtorEq, decide_true, decide_false, Nat.reduceAdd, Nat.reduceLT, Nat.reduceSub, Nat.reduceEqDiff, ne_eq, not_true_eq_false, not_false_eq_true, Option.some.injEq, exists_eq_left, Int.reduceNeg, beq_self_eq_true, Nat.zero_add, Nat.add_zero]; rfl, .inl (by simp only [e_non, e_bl, e_int, e_str, e_var, e_glob, e_bin, e_neg, e_cmp, e_isN, e_notN, e_chain, e_and_, e_or_, e_not_, e_ite, e_tup, e_lst, e_idx, e_sl, e_rev, e_sset, e_rng, e_call, e_callv, e_blt, e_isi, e_dis, e_dget, z_frz, z_app, z_ext, z_drop, z_set, z_setT, z_par, z_aug, z_put, z_augPut, z_ite, z_ret, z_retN, z_pass, z_brk, z_cont, z_never, z_nil, z_cons, evAnd, evOr, evF, evV, evKV, evI, evC, evP, seqF, setS, varOf, parS, augS, augI, appS, extS, putS, frzL, frzR, bindT, bindL, wipeR, kz, bz, oneI, dBin, dCmp, cLt, cLe, cGt, cGe, cEq_int, cNe_int, dIdx, dBi, bLen, bAbs, bInt, bSum, bMin, bMax, bAny, bAll, bSorted, bList, bTuple, isiD, noneB, fewD, dSl, Option.bind_some, Option.map_some, Option.bind_none, Option.map_none, isKey, keyD, zipD, intsD_map, boolsD_map, boolsD_mapf, intsD_mapf, Option.isSome_some, Nat.reduceLeDiff, Nat.zero_le, List.foldl_nil, List.length_cons, List.length_nil, List.length_map, List.map_cons, List.map_nil, List.cons_append, List.nil_append, List.replicate, List.getElem?_cons_zero, List.getElem?_cons_succ, List.set_cons_zero, List.set_cons_succ, ↓reduceIte, Bool.not_true, Bool.not_false, and_self, and_true, true_and, Bool.false_eq_true, reduceCtorEq, decide_true, decide_false, Nat.reduceAdd, Nat.reduceLT, Nat.reduceSub, Nat.reduceEqDiff, ne_eq, not_true_eq_false, not_false_eq_true, Option.some.injEq, exists_eq_left, Int.reduceNeg, beq_self_eq_true, Nat.zero_add, Nat.add_zero, l1, l2, l3, realD_int, c1, e]; rfl), _, _, rfl, fun x hx => hb x (List.mem_cons_of_mem _ hx)⟩
theorem s23 (k : Nat) (x0 x3 x4 x5 x6 x7 x8 x9 x10 x11 x12 x13 x14 x15 x16 x17 x18 x19 x20 x21 x22 x23 : Option (Bool × PyData)) (ds : List Int) (tn : Int) (hd : Dr ds) (hl : ds.length = 200) (ht : 0 ≤ tn ∧ tn < 5) : evS (glI inf) (C (k + 20)) 100000 q23 [x0, some (false, lI ds), some (false, .int tn), x3, x4, x5, x6, x7, x8, x9, x10, x11, x12, x13, x14, x15, x16, x17, x18, x19, x20, x21, x22, x23] =
    some (.nx [x0, some (false, lI ds), some (false, .int tn), x3, x4, x5, x6, x7, x8, x9, x10, x11, x12, x13, x14, x15, x16, x17, x18, some (false, .int (1 + dv ds (100 + tn) % 6)), x20, x21, x22, x23]) := by
  have a1 := at_draw ds hl (100 + tn) (by omega) (by omega)
  simp only [lI, q23, e_non, e_bl, e_int, e_str, e_var, e_glob, e_bin, e_neg, e_cmp, e_isN, e_notN, e_chain, e_and_, e_or_, e_not_, e_ite, e_tup, e_lst, e_idx, e_sl, e_rev, e_sset, e_rng, e_call, e_callv, e_blt, e_isi, e_dis, e_dget, z_frz, z_app, z_ext, z_drop, z_set, z_setT, z_par, z_aug, z_put, z_augPut, z_ite, z_ret, z_retN, z_pass, z_brk, z_cont, z_never, z_nil, z_cons, evAnd, evOr, evF, evV, evKV, evI, evC, evP, seqF, setS, varOf, parS, augS, augI, appS, extS, putS, frzL, frzR, bindT, bindL, wipeR, kz, bz, oneI, dBin, dCmp, cLt, cLe, cGt, cGe, cEq_int, cNe_int, dIdx, dBi, bLen, bAbs, bInt, bSum, bMin, bMax, bAny, bAll, bSorted, bList, bTuple, isiD, noneB, fewD, dSl, Option.bind_some, Option.map_some, Option.bind_none, Option.map_none, isKey, keyD, zipD, intsD_map, boolsD_map, boolsD_mapf, intsD_mapf, Option.isSome_some, Nat.reduceLeDiff, Nat.zero_le, List.foldl_nil, List.length_cons, List.length_nil, List.length_map, List.map_cons, List.map_nil, List.cons_append, List.nil_append, List.replicate, List.getElem?_cons_zero, List.getElem?_cons_succ, List.set_cons_zero, List.set_cons_succ, ↓reduceIte, Bool.not_true, Bool.not_false, and_self, and_true, true_and, Bool.false_eq_true, reduceCtorEq, decide_true, decide_false, Nat.reduceAdd, Nat.reduceLT, Nat.reduceSub, Nat.reduceEqDiff, ne_eq, not_true_eq_false, not_false_eq_true, Option.some.injEq, exists_eq_left, Int.reduceNeg, beq_self_eq_true, Nat.zero_add, Nat.add_zero, a1, Int.reduceLT]
theorem s24 (k : Nat) (x0 x1 x2 x3 x4 x5 x6 x7 x8 x9 x10 x11 x12 x13 x14 x15 x16 x17 x18 x20 x21 x22 x23 : Option (Bool × PyData)) (w : Int) : evS (glI inf) (C (k + 20)) 100000 q24 [x0, x1, x2, x3, x4, x5, x6, x7, x8, x9, x10, x11, x12, x13, x14, x15, x16, x17, x18, some (false, .int w), x20, x21, x22, x23] =
    some (.nx [x0, x1, x2, x3, x4, x5, x6, x7, x8, x9, x10, x11, x12, x13, x14, x15, x16, x17, x18, some (false, .int w), x20, x21, x22, x23]) := by
  simp only [q24, e_non, e_bl, e_int, e_str, e_var, e_glob, e_bin, e_neg, e_cmp, e_isN, e_notN, e_chain, e_and_, e_or_, e_not_, e_ite, e_tup, e_lst, e_idx, e_sl, e_rev, e_sset, e_rng, e_call, e_callv, e_blt, e_isi, e_dis, e_dget, z_frz, z_app, z_ext, z_drop, z_set, z_setT, z_par, z_aug, z_put, z_augPut, z_ite, z_ret, z_retN, z_pass, z_brk, z_cont, z_never, z_nil, z_cons, evAnd, evOr, evF, evV, evKV, evI, evC, evP, seqF, setS, varOf, parS, augS, augI, appS, extS, putS, frzL, frzR, bindT, bindL, wipeR, kz, bz, oneI, dBin, dCmp, cLt, cLe, cGt, cGe, cEq_int, cNe_int, dIdx, dBi, bLen, bAbs, bInt, bSum, bMin, bMax, bAny, bAll, bSorted, bList, bTuple, isiD, noneB, fewD, dSl, Option.bind_some, Option.map_some, Option.bind_none, Option.map_none, isKey, keyD, zipD, intsD_map, boolsD_map, boolsD_mapf, intsD_mapf, Option.isSome_some, Nat.reduceLeDiff, Nat.zero_le, List.foldl_nil, List.length_cons, List.length_nil, List.length_map, List.map_cons, List.map_nil, List.cons_append, List.nil_append, List.replicate, List.getElem?_cons_zero, List.getElem?_cons_succ, List.set_cons_zero, List.set_cons_succ, ↓reduceIte, Bool.not_true, Bool.not_false, and_self, and_true, true_and, Bool.false_eq_true, reduceCtorEq, decide_true, decide_false, Nat.reduceAdd, Nat.reduceLT, Nat.reduceSub, Nat.reduceEqDiff, ne_eq, not_true_eq_false, not_false_eq_true, Option.some.injEq, exists_eq_left, Int.reduceNeg, beq_self_eq_true, Nat.zero_add, Nat.add_zero]
theorem s25 (k : Nat) (x0 x1 x2 x3 x4 x5 x6 x7 x8 x9 x10 x11 x12 x13 x14 x15 x16 x17 x18 x19 x20 x21 x22 x23 : Option (Bool × PyData))  : evS (glI inf) (C (k + 20)) 100000 q25 [x0, x1, x2, x3, x4, x5, x6, x7, x8, x9, x10, x11, x12, x13, x14, x15, x16, x17, x18, x19, x20, x21, x22, x23] =
    some (.nx [x0, x1, x2, x3, x4, x5, x6, x7, x8, x9, x10, x11, x12, x13, x14, x15, x16, x17, x18, x19, some (true, lI [1]), x21, x22, x23]) := by
  simp only [q25, e_non, e_bl, e_int, e_str, e_var, e_glob, e_bin, e_neg, e_cmp, e_isN, e_notN, e_chain, e_and_, e_or_, e_not_, e_ite, e_tup, e_lst, e_idx, e_sl, e_rev, e_sset, e_rng, e_call, e_callv, e_blt, e_isi, e_dis, e_dget, z_frz, z_app, z_ext, z_drop, z_set, z_setT, z_par, z_aug, z_put, z_augPut, z_ite, z_ret, z_retN, z_pass, z_brk, z_cont, z_never, z_nil, z_cons, evAnd, evOr, evF, evV, evKV, evI, evC, evP, seqF, setS, varOf, parS, augS, augI, appS, extS, putS, frzL, frzR, bindT, bindL, wipeR, kz, bz, oneI, dBin, dCmp, cLt, cLe, cGt, cGe, cEq_int, cNe_int, dIdx, dBi, bLen, bAbs, bInt, bSum, bMin, bMax, bAny, bAll, bSorted, bList, bTuple, isiD, noneB, fewD, dSl, Option.bind_some, Option.map_some, Option.bind_none, Option.map_none, isKey, keyD, zipD, intsD_map, boolsD_map, boolsD_mapf, intsD_mapf, Option.isSome_some, Nat.reduceLeDiff, Nat.zero_le, List.foldl_nil, List.length_cons, List.length_nil, List.length_map, List.map_cons, List.map_nil, List.cons_append, List.nil_append, List.replicate, List.getElem?_cons_zero, List.getElem?_cons_succ, List.set_cons_zero, List.set_cons_succ, ↓reduceIte, Bool.not_true, Bool.not_false, and_self, and_true, true_and, Bool.false_eq_true, reduceCtorEq, decide_true, decide_false, Nat.reduceAdd, Nat.reduceLT, Nat.reduceSub, Nat.reduceEqDiff, ne_eq, not_true_eq_false, not_false_eq_true, Option.some.injEq, exists_eq_left, Int.reduceNeg, beq_self_eq_true, Nat.zero_add, Nat.add_zero, lI]
theorem s26 (k : Nat) (x0 x1 x2 x3 x5 x6 x7 x8 x9 x10 x11 x12 x13 x14 x15 x16 x17 x18 x22 x23 x21 : Option (Bool × PyData)) (p : Int) (hp : p = 1 ∨ p = 2) (s : Nat) (h1 : 1 ≤ s) (h2 : s ≤ 6) : ∃ y, evS (glI inf) (C (k + 20)) 100000 q26 [x0, x1, x2, x3, some (false, .int p), x5, x6, x7, x8, x9, x10, x11, x12, x13, x14, x15, x16, x17, x18, some (false, .int (s : Nat)), some (true, lI (pws (p + 1) (0 + 1))), x21, x22, x23] =
    some (.nx [x0, x1, x2, x3, some (false, .int p), x5, x6, x7, x8, x9, x10, x11, x12, x13, x14, x15, x16, x17, x18, some (false, .int (s : Nat)), some (true, lI (pws (p + 1) (s))), y, x22, x23]) := by
  have z := z_for (gl := glI inf) (c := C (k + 20)) (n := 100000) (ρ := [x0, x1, x2, x3, some (false, .int p), x5, x6, x7, x8, x9, x10, x11, x12, x13, x14, x15, x16, x17, x18, some (false, .int (s : Nat)), some (true, lI (pws (p + 1) (0 + 1))), x21, x22, x23]) (t := .nm 21) (it := .range1 (.bin .sub (.var 19) (.int 1))) (b := (.cons (.app 20 (.bin .mul (.idx (.var 20) (.neg (.int 1))) (.bin .add (.var 4) (.int 1)))) .nil)) (l := List.range (s - 1)) (fun i : Nat => .int (0 + (i : Int)))
    (fun rest ρ => ∃ n y, ρ = [x0, x1, x2, x3, some (false, .int p), x5, x6, x7, x8, x9, x10, x11, x12, x13, x14, x15, x16, x17, x18, some (false, .int (s : Nat)), some (true, lI (pws (p + 1) (n + 1))), y, x22, x23] ∧ n + rest.length = s - 1)
    (by
      have hb : -100000000 ≤ (s : Int) - 1 ∧ (s : Int) - 1 ≤ 100000000 := by omega
      have he : ((s : Int) - 1).toNat = s - 1 := by omega
      simp only [e_non, e_bl, e_int, e_str, e_var, e_glob, e_bin, e_neg, e_cmp, e_isN, e_notN, e_chain, e_and_, e_or_, e_not_, e_ite, e_tup, e_lst, e_idx, e_sl, e_rev, e_sset, e_rng, e_call, e_callv, e_blt, e_isi, e_dis, e_dget, z_frz, z_app, z_ext, z_drop, z_set, z_setT, z_par, z_aug, z_put, z_augPut, z_ite, z_ret, z_retN, z_pass, z_brk, z_cont, z_never, z_nil, z_cons, evAnd, evOr, evF, evV, evKV, evI, evC, evP, seqF, setS, varOf, parS, augS, augI, appS, extS, putS, frzL, frzR, bindT, bindL, wipeR, kz, bz, oneI, dBin, dCmp, cLt, cLe, cGt, cGe, cEq_int, cNe_int, dIdx, dBi, bLen, bAbs, bInt, bSum, bMin, bMax, bAny, bAll, bSorted, bList, bTuple, isiD, noneB, fewD, dSl, Option.bind_some, Option.map_some, Option.bind_none, Option.map_none, isKey, keyD, zipD, intsD_map, boolsD_map, boolsD_mapf, intsD_mapf, Option.isSome_some, Nat.reduceLeDiff, Nat.zero_le, List.foldl_nil, List.length_cons, List.length_nil, List.length_map, List.map_cons, List.map_nil, List.cons_append, List.nil_append, List.replicate, List.getElem?_cons_zero, List.getElem?_cons_succ, List.set_cons_zero, List.set_cons_succ, ↓reduceIte, Bool.not_true, Bool.not_false, and_self, and_true, true_and, Bool.false_eq_true, reduceCtorEq, decide_true, decide_false, Nat.reduceAdd, Nat.reduceLT, Nat.reduceSub, Nat.reduceEqDiff, ne_eq, not_true_eq_false, not_false_eq_true, Option.some.injEq, exists_eq_left, Int.reduceNeg, beq_self_eq_true, Nat.zero_add, Nat.add_zero, hb, rangeD, Int.sub_zero, he]) ⟨0, x21, rfl, by rw [List.length_range]; omega⟩ ?_
  · obtain ⟨ρ', e1, n, y, e2, e3⟩ := z
    subst e2
    rw [List.length_nil, Nat.add_zero] at e3
    have : n + 1 = s := by omega
    subst this
    exact ⟨y, e1⟩
  · rintro q r ρ ⟨n, y, rfl, hn⟩
    rw [List.length_cons] at hn
    have a1 : L2.atI ((pws (p + 1) (n + 1)).map PyData.int) (-1) = some (.int (powI (p + 1) n)) := by rw [pws_succ, List.map_append]; exact atI_last _ _
    have b1 := pw_pos p hp n
    have b2 := pw_le6 p hp n (by omega)
    have mo := mul_ok (i := powI (p + 1) n) (j := p + 1) (by omega) (by omega) (by omega) (by omega)
    have ea : (pws (p + 1) (n + 1)).map PyData.int ++ [PyData.int (powI (p + 1) n * (p + 1))] = (pws (p + 1) (n + 1 + 1)).map .int := by rw [pws_succ (p + 1) (n + 1), List.map_append]; rfl
    have hl : n + 1 < 100000 := by omega
    refine ⟨_, _, by simp only [e_non, e_bl, e_int, e_str, e_var, e_glob, e_bin, e_neg, e_cmp, e_isN, e_notN, e_chain, e_and_, e_or_, e_not_, e_ite, e_tup, e_lst, e_idx, e_sl, e_rev, e_sset, e_rng, e_call, e_callv, e_blt, e_isi, e_dis, e_dget, z_frz, z_app, z_ext, z_drop, z_set, z_setT, z_par, z_aug, z_put, z_augPut, z_ite, z_ret, z_retN, z_pass, z_brk, z_cont, z_never, z_nil, z_cons, evAnd, evOr, evF, evV, evKV, evI, evC, evP, seqF, setS, varOf, parS, augS, augI, appS, extS, putS, frzL, frzR, bindT, bindL, wipeR, kz, bz, oneI, dBin, dCmp, cLt, cLe, cGt, cGe, cEq_int, cNe_int, dIdx, dBi, bLen, bAbs, bInt, bSum, bMin, bMax, bAny, bAll, bSorted, bList, bTuple, isiD, noneB, fewD, dSl, Option.bind_some, Option.map_some, Option.bind_none, Option.map_none, isKey, keyD, zipD, intsD_map, boolsD_map, boolsD_mapf, intsD_mapf, Option.isSome_some, Nat.reduceLeDiff, Nat.zero_le, List.foldl_nil, List.length_cons, List.length_nil, List.length_map, List.map_cons, List.map_nil, List.cons_append, List.nil_append, List.replicate, List.getElem?_cons_zero, List.getElem?_cons_succ, List.set_cons_zero, List.set_cons_succ, ↓reduceIte, Bool.not_true, Bool.not_false, and_self, and_true, true_and, Bool.false_eq_true, reduceCtorEq, decide_true, decide_false, Nat.reduceAdd, Nat.reduceLT, Nat.reduceSub, Nat.reduceEqDiff, ne_eq, not_true_eq_false, not_false_eq_true, Option.some.injEq, exists_eq_left, Int.reduceNeg, beq_self_eq_true, Nat.zero_add, Nat.add_zero]; rfl, .inl (by simp only [lI, e_non, e_bl, e_int, e_str, e_var, e_glob, e_bin, e_neg, e_cmp, e_isN, e_notN, e_chain, e_and_, e_or_, e_not_, e_ite, e_tup, e_lst, e_idx, e_sl, e_rev, e_sset, e_rng, e_call, e_callv, e_blt, e_isi, e_dis, e_dget, z_frz, z_app, z_ext, z_drop, z_set, z_setT, z_par, z_aug, z_put, z_augPut, z_ite, z_ret, z_retN, z_pass, z_brk, z_cont, z_never, z_nil, z_cons, evAnd, evOr, evF, evV, evKV, evI, evC, evP, seqF, setS, varOf, parS, augS, augI, appS, extS, putS, frzL, frzR, bindT, bindL, wipeR, kz, bz, oneI, dBin, dCmp, cLt, cLe, cGt, cGe, cEq_int, cNe_int, dIdx, dBi, bLen, bAbs, bInt, bSum, bMin, bMax, bAny, bAll, bSorted, bList, bTuple, isiD, noneB, fewD, dSl, Option.bind_some, Option.map_some, Option.bind_none, Option.map_none, isKey, keyD, zipD, intsD_map, boolsD_map, boolsD_mapf, intsD_mapf, Option.isSome_some, Nat.reduceLeDiff, Nat.zero_le, List.foldl_nil, List.length_cons, List.length_nil, List.length_map, List.map_cons, List.map_nil, List.cons_append, List.nil_append, List.replicate, List.getElem?_cons_zero, List.getElem?_cons_succ, List.set_cons_zero, List.set_cons_succ, ↓reduceIte, Bool.not_true, Bool.not_false, and_self, and_true, true_and, Bool.false_eq_true, reduceCtorEq, decide_true, decide_false, Nat.reduceAdd, Nat.reduceLT, Nat.reduceSub, Nat.reduceEqDiff, ne_eq, not_true_eq_false, not_false_eq_true, Option.some.injEq, exists_eq_left, Int.reduceNeg, beq_self_eq_true, Nat.zero_add, Nat.add_zero, a1, mo, pws_len, hl, ea]; rfl), n + 1, _, rfl, by omega⟩
theorem s27 (k : Nat) (x0 x1 x2 x3 x4 x5 x6 x7 x8 x9 x10 x11 x12 x13 x14 x15 x16 x17 x18 x19 x21 x22 x23 : Option (Bool × PyData)) (l : List Int) : evS (glI inf) (C (k + 20)) 100000 q27 [x0, x1, x2, x3, x4, x5, x6, x7, x8, x9, x10, x11, x12, x13, x14, x15, x16, x17, x18, x19, some (true, lI l), x21, x22, x23] =
    some (.nx [x0, x1, x2, x3, x4, x5, x6, x7, x8, x9, x10, x11, x12, x13, x14, x15, x16, x17, x18, x19, some (true, lI l), x21, some (false, .int l.sum), x23]) := by
  simp only [q27, lI, e_non, e_bl, e_int, e_str, e_var, e_glob, e_bin, e_neg, e_cmp, e_isN, e_notN, e_chain, e_and_, e_or_, e_not_, e_ite, e_tup, e_lst, e_idx, e_sl, e_rev, e_sset, e_rng, e_call, e_callv, e_blt, e_isi, e_dis, e_dget, z_frz, z_app, z_ext, z_drop, z_set, z_setT, z_par, z_aug, z_put, z_augPut, z_ite, z_ret, z_retN, z_pass, z_brk, z_cont, z_never, z_nil, z_cons, evAnd, evOr, evF, evV, evKV, evI, evC, evP, seqF, setS, varOf, parS, augS, augI, appS, extS, putS, frzL, frzR, bindT, bindL, wipeR, kz, bz, oneI, dBin, dCmp, cLt, cLe, cGt, cGe, cEq_int, cNe_int, dIdx, dBi, bLen, bAbs, bInt, bSum, bMin, bMax, bAny, bAll, bSorted, bList, bTuple, isiD, noneB, fewD, dSl, Option.bind_some, Option.map_some, Option.bind_none, Option.map_none, isKey, keyD, zipD, intsD_map, boolsD_map, boolsD_mapf, intsD_mapf, Option.isSome_some, Nat.reduceLeDiff, Nat.zero_le, List.foldl_nil, List.length_cons, List.length_nil, List.length_map, List.map_cons, List.map_nil, List.cons_append, List.nil_append, List.replicate, List.getElem?_cons_zero, List.getElem?_cons_succ, List.set_cons_zero, List.set_cons_succ, ↓reduceIte, Bool.not_true, Bool.not_false, and_self, and_true, true_and, Bool.false_eq_true, reduceCtorEq, decide_true, decide_false, Nat.reduceAdd, Nat.reduceLT, Nat.reduceSub, Nat.reduceEqDiff, ne_eq, not_true_eq_false, not_false_eq_true, Option.some.injEq, exists_eq_left, Int.reduceNeg, beq_self_eq_true, Nat.zero_add, Nat.add_zero]
theorem s28 (k : Nat) (x0 x1 x2 x3 x5 x6 x7 x8 x9 x10 x11 x12 x13 x14 x15 x16 x17 x18 x19 x21 x23 : Option (Bool × PyData)) (p : Int) (hp : p = 1 ∨ p = 2) (s : Nat) (h1 : 1 ≤ s) (h2 : s ≤ 6) : evS (glI inf) (C (k + 20)) 100000 q28 [x0, x1, x2, x3, some (false, .int p), x5, x6, x7, x8, x9, x10, x11, x12, x13, x14, x15, x16, x17, x18, x19, some (true, lI (pws (p + 1) s)), x21, some (false, .int (pws (p + 1) s).sum), x23] =
    some (.nx [x0, x1, x2, x3, some (false, .int p), x5, x6, x7, x8, x9, x10, x11, x12, x13, x14, x15, x16, x17, x18, x19, some (true, lI (pws (p + 1) s)), x21, some (false, .int (pws (p + 1) s).sum), x23]) := by
  have hk := pws_wk p hp s h1 h2
  have bd := pws_bd p hp s h1 h2
  have c1 := c_weighable (k + 17) (pws (p + 1) s) p hk hp
  have gs : ∀ i : Nat, i < (pws (p + 1) s).sum.toNat → (getI (countsL (pws (p + 1) s) p) (1 + i)).isSome = true := fun i hi => by
    rw [pws_get p hp s _ (by omega), if_pos (by omega)]; rfl
  have g0 : getI (countsL (pws (p + 1) s) p) (1 + ((pws (p + 1) s).sum.toNat : Int)) = none := by
    rw [pws_get p hp s _ (by omega), if_neg (by omega)]
  have c2 := c_gap (k + 16) (pws (p + 1) s) p _ hk hp gs g0 (by omega)
  have c3 := c_is_enough (k + 16) (pws (p + 1) s) p (if 1000 < (pws (p + 1) s).sum then 1000 else (pws (p + 1) s).sum) _ hk hp (by split <;> omega) (by split <;> omega) gs g0 (by omega)
  have e3 : decide ((if 1000 < (pws (p + 1) s).sum then 1000 else (pws (p + 1) s).sum) < 1 + ((pws (p + 1) s).sum.toNat : Int)) = true := by
    simp only [decide_eq_true_eq]
    split <;> omega
  rw [e3] at c3
  have e2 : decide (¬ 1 + ((pws (p + 1) s).sum.toNat : Int) = (pws (p + 1) s).sum + 1) = false := by simp; omega
  have er : PyData.tuple (rangeD 1 ((pws (p + 1) s).sum + 1)) = tpI (wbl (pws (p + 1) s) p) := by
    rw [wbl_pws p hp]
    unfold rangeD tpI
    rw [List.map_map, show (pws (p + 1) s).sum + 1 - 1 = (pws (p + 1) s).sum by omega]; rfl
  have e1 : cNe (tpI (wbl (pws (p + 1) s) p)) (tpI (wbl (pws (p + 1) s) p)) = some false := by
    have := cNe_tI (wbl (pws (p + 1) s) p) (wbl (pws (p + 1) s) p)
    simp only [ne_eq, not_true_eq_false, decide_false] at this
    exact this
  have hb : (-100000000 : Int) ≤ 1 ∧ (1 : Int) ≤ 100000000 ∧ -100000000 ≤ (pws (p + 1) s).sum + 1 ∧ (pws (p + 1) s).sum + 1 ≤ 100000000 ∧ (pws (p + 1) s).sum + 1 - 1 ≤ 100000 := by omega
  rw [show tpI (pws (p + 1) s) = .tuple ((pws (p + 1) s).map .int) from rfl] at c1 c2 c3
  simp only [q28, lI, e_non, e_bl, e_int, e_str, e_var, e_glob, e_bin, e_neg, e_cmp, e_isN, e_notN, e_chain, e_and_, e_or_, e_not_, e_ite, e_tup, e_lst, e_idx, e_sl, e_rev, e_sset, e_rng, e_call, e_callv, e_blt, e_isi, e_dis, e_dget, z_frz, z_app, z_ext, z_drop, z_set, z_setT, z_par, z_aug, z_put, z_augPut, z_ite, z_ret, z_retN, z_pass, z_brk, z_cont, z_never, z_nil, z_cons, evAnd, evOr, evF, evV, evKV, evI, evC, evP, seqF, setS, varOf, parS, augS, augI, appS, extS, putS, frzL, frzR, bindT, bindL, wipeR, kz, bz, oneI, dBin, dCmp, cLt, cLe, cGt, cGe, cEq_int, cNe_int, dIdx, dBi, bLen, bAbs, bInt, bSum, bMin, bMax, bAny, bAll, bSorted, bList, bTuple, isiD, noneB, fewD, dSl, Option.bind_some, Option.map_some, Option.bind_none, Option.map_none, isKey, keyD, zipD, intsD_map, boolsD_map, boolsD_mapf, intsD_mapf, Option.isSome_some, Nat.reduceLeDiff, Nat.zero_le, List.foldl_nil, List.length_cons, List.length_nil, List.length_map, List.map_cons, List.map_nil, List.cons_append, List.nil_append, List.replicate, List.getElem?_cons_zero, List.getElem?_cons_succ, List.set_cons_zero, List.set_cons_succ, ↓reduceIte, Bool.not_true, Bool.not_false, and_self, and_true, true_and, Bool.false_eq_true, reduceCtorEq, decide_true, decide_false, Nat.reduceAdd, Nat.reduceLT, Nat.reduceSub, Nat.reduceEqDiff, ne_eq, not_true_eq_false, not_false_eq_true, Option.some.injEq, exists_eq_left, Int.reduceNeg, beq_self_eq_true, Nat.zero_add, Nat.add_zero, Option.getD_some, c1, hb, er, e1, c2, c3, e2]
theorem s29 (k : Nat) (x0 x3 x5 x6 x7 x8 x9 x10 x11 x12 x13 x14 x15 x16 x17 x18 x19 x21 x23 : Option (Bool × PyData)) (ds : List Int) (tn : Int) (hd : Dr ds) (hl : ds.length = 200) (ht : 0 ≤ tn ∧ tn < 5) (p : Int) (hp : p = 1 ∨ p = 2) (s : Nat) (h1 : 1 ≤ s) (h2 : s ≤ 6) : evS (glI inf) (C (k + 20)) 100000 q29 [x0, some (false, lI ds), some (false, .int tn), x3, some (false, .int p), x5, x6, x7, x8, x9, x10, x11, x12, x13, x14, x15, x16, x17, x18, x19, some (true, lI (pws (p + 1) s)), x21, some (false, .int (pws (p + 1) s).sum), x23] =
    some (.nx [x0, some (false, lI ds), some (false, .int tn), x3, some (false, .int p), x5, x6, x7, x8, x9, x10, x11, x12, x13, x14, x15, x16, x17, x18, x19, some (true, lI (pws (p + 1) s)), x21, some (false, .int (pws (p + 1) s).sum), x23]) := by
  have hk := pws_wk p hp s h1 h2
  have bd := pws_bd p hp s h1 h2
  have a1 := at_draw ds hl (110 + tn) (by omega) (by omega)
  have m1 := Int.emod_nonneg (dv ds (110 + tn)) (show (pws (p + 1) s).sum ≠ 0 by omega)
  have m2 := Int.emod_lt_of_pos (dv ds (110 + tn)) (show 0 < (pws (p + 1) s).sum by omega)
  have hpos : 0 < (pws (p + 1) s).sum := by omega
  have hc := e_comp0 (gl := glI inf) (c := C (k + 20)) (ρ := [x0, some (false, lI ds), some (false, .int tn), x3, some (false, .int p), x5, x6, x7, x8, x9, x10, x11, x12, x13, x14, x15, x16, x17, x18, x19, some (true, lI (pws (p + 1) s)), x21, some (false, .int (pws (p + 1) s).sum), x23]) (elt := .cmp .ne (.call "ways_to" (.cons (.blt .tuple (.cons (.var 20) .nil)) (.cons (.var 4) (.cons (.var 23) .nil)))) (.int 1)) (tg := .nm 23) (it := .over (.tup (.cons (.int 1) (.cons (.var 22) (.cons (.bin .add (.int 1) (.bin .mod (.blt .int (.cons (.idx (.var 1) (.bin .add (.int 110) (.var 2))) .nil)) (.var 22))) .nil))))) (own := [("one", 23)]) (b := false) (l := [1, (pws (p + 1) s).sum, 1 + dv ds (110 + tn) % (pws (p + 1) s).sum]) .int (fun a => .bool false)
    (by simp only [lI, e_non, e_bl, e_int, e_str, e_var, e_glob, e_bin, e_neg, e_cmp, e_isN, e_notN, e_chain, e_and_, e_or_, e_not_, e_ite, e_tup, e_lst, e_idx, e_sl, e_rev, e_sset, e_rng, e_call, e_callv, e_blt, e_isi, e_dis, e_dget, z_frz, z_app, z_ext, z_drop, z_set, z_setT, z_par, z_aug, z_put, z_augPut, z_ite, z_ret, z_retN, z_pass, z_brk, z_cont, z_never, z_nil, z_cons, evAnd, evOr, evF, evV, evKV, evI, evC, evP, seqF, setS, varOf, parS, augS, augI, appS, extS, putS, frzL, frzR, bindT, bindL, wipeR, kz, bz, oneI, dBin, dCmp, cLt, cLe, cGt, cGe, cEq_int, cNe_int, dIdx, dBi, bLen, bAbs, bInt, bSum, bMin, bMax, bAny, bAll, bSorted, bList, bTuple, isiD, noneB, fewD, dSl, Option.bind_some, Option.map_some, Option.bind_none, Option.map_none, isKey, keyD, zipD, intsD_map, boolsD_map, boolsD_mapf, intsD_mapf, Option.isSome_some, Nat.reduceLeDiff, Nat.zero_le, List.foldl_nil, List.length_cons, List.length_nil, List.length_map, List.map_cons, List.map_nil, List.cons_append, List.nil_append, List.replicate, List.getElem?_cons_zero, List.getElem?_cons_succ, List.set_cons_zero, List.set_cons_succ, ↓reduceIte, Bool.not_true, Bool.not_false, and_self, and_true, true_and, Bool.false_eq_true, reduceCtorEq, decide_true, decide_false, Nat.reduceAdd, Nat.reduceLT, Nat.reduceSub, Nat.reduceEqDiff, ne_eq, not_true_eq_false, not_false_eq_true, Option.some.injEq, exists_eq_left, Int.reduceNeg, beq_self_eq_true, Nat.zero_add, Nat.add_zero, a1, hpos]) (by simp) (fun x hx => by
      have hx2 : 1 ≤ x ∧ x ≤ (pws (p + 1) s).sum := by
        simp only [List.mem_cons, List.not_mem_nil, or_false] at hx
        rcases hx with h | h | h <;> subst h <;> omega
      have c2 := c_ways_to (k + 17) (pws (p + 1) s) p x hk hp hx2.1 (by omega)
      rw [pws_get p hp s _ hx2.1, if_pos hx2.2, Option.getD_some] at c2
      rw [show tpI (pws (p + 1) s) = .tuple ((pws (p + 1) s).map .int) from rfl] at c2
      simp only [List.map_cons, List.map_nil, wipeR, bindT, List.set_cons_succ, List.set_cons_zero, List.length_cons, List.length_nil, Nat.reduceAdd, Nat.reduceLT, ↓reduceIte, Option.some.injEq, exists_eq_left']
      simp only [lI, e_non, e_bl, e_int, e_str, e_var, e_glob, e_bin, e_neg, e_cmp, e_isN, e_notN, e_chain, e_and_, e_or_, e_not_, e_ite, e_tup, e_lst, e_idx, e_sl, e_rev, e_sset, e_rng, e_call, e_callv, e_blt, e_isi, e_dis, e_dget, z_frz, z_app, z_ext, z_drop, z_set, z_setT, z_par, z_aug, z_put, z_augPut, z_ite, z_ret, z_retN, z_pass, z_brk, z_cont, z_never, z_nil, z_cons, evAnd, evOr, evF, evV, evKV, evI, evC, evP, seqF, setS, varOf, parS, augS, augI, appS, extS, putS, frzL, frzR, bindT, bindL, wipeR, kz, bz, oneI, dBin, dCmp, cLt, cLe, cGt, cGe, cEq_int, cNe_int, dIdx, dBi, bLen, bAbs, bInt, bSum, bMin, bMax, bAny, bAll, bSorted, bList, bTuple, isiD, noneB, fewD, dSl, Option.bind_some, Option.map_some, Option.bind_none, Option.map_none, isKey, keyD, zipD, intsD_map, boolsD_map, boolsD_mapf, intsD_mapf, Option.isSome_some, Nat.reduceLeDiff, Nat.zero_le, List.foldl_nil, List.length_cons, List.length_nil, List.length_map, List.map_cons, List.map_nil, List.cons_append, List.nil_append, List.replicate, List.getElem?_cons_zero, List.getElem?_cons_succ, List.set_cons_zero, List.set_cons_succ, ↓reduceIte, Bool.not_true, Bool.not_false, and_self, and_true, true_and, Bool.false_eq_true, reduceCtorEq, decide_true, decide_false, Nat.reduceAdd, Nat.reduceLT, Nat.reduceSub, Nat.reduceEqDiff, ne_eq, not_true_eq_false, not_false_eq_true, Option.some.injEq, exists_eq_left, Int.reduceNeg, beq_self_eq_true, Nat.zero_add, Nat.add_zero, c2])
  simp only [q29, e_non, e_bl, e_int, e_str, e_var, e_glob, e_bin, e_neg, e_cmp, e_isN, e_notN, e_chain, e_and_, e_or_, e_not_, e_ite, e_tup, e_lst, e_idx, e_sl, e_rev, e_sset, e_rng, e_call, e_callv, e_blt, e_isi, e_dis, e_dget, z_frz, z_app, z_ext, z_drop, z_set, z_setT, z_par, z_aug, z_put, z_augPut, z_ite, z_ret, z_retN, z_pass, z_brk, z_cont, z_never, z_nil, z_cons, evAnd, evOr, evF, evV, evKV, evI, evC, evP, seqF, setS, varOf, parS, augS, augI, appS, extS, putS, frzL, frzR, bindT, bindL, wipeR, kz, bz, oneI, dBin, dCmp, cLt, cLe, cGt, cGe, cEq_int, cNe_int, dIdx, dBi, bLen, bAbs, bInt, bSum, bMin, bMax, bAny, bAll, bSorted, bList, bTuple, isiD, noneB, fewD, dSl, Option.bind_some, Option.map_some, Option.bind_none, Option.map_none, isKey, keyD, zipD, intsD_map, boolsD_map, boolsD_mapf, intsD_mapf, Option.isSome_some, Nat.reduceLeDiff, Nat.zero_le, List.foldl_nil, List.length_cons, List.length_nil, List.length_map, List.map_cons, List.map_nil, List.cons_append, List.nil_append, List.replicate, List.getElem?_cons_zero, List.getElem?_cons_succ, List.set_cons_zero, List.set_cons_succ, ↓reduceIte, Bool.not_true, Bool.not_false, and_self, and_true, true_and, Bool.false_eq_true, reduceCtorEq, decide_true, decide_false, Nat.reduceAdd, Nat.reduceLT, Nat.reduceSub, Nat.reduceEqDiff, ne_eq, not_true_eq_false, not_false_eq_true, Option.some.injEq, exists_eq_left, Int.reduceNeg, beq_self_eq_true, Nat.zero_add, Nat.add_zero, hc]
  rfl
theorem turn_ok (k : Nat) (S : PyData) (ds : List Int) (tn : Int) (hd : Dr ds) (hl : ds.length = 200) (ht : 0 ≤ tn ∧ tn < 5) (x3 x4 x5 x6 x7 x8 x9 x10 x11 x12 x13 x14 x15 x16 x17 x18 x19 x20 x21 x22 x23 : Option (Bool × PyData)) :
    ∃ y3 y4 y5 y6 y7 y8 y9 y10 y11 y12 y13 y14 y15 y16 y17 y18 y19 y20 y21 y22 y23, evS (glI inf) (C (k + 20)) 100000 turnB [some (false, S), some (false, lI ds), some (false, .int tn), x3, x4, x5, x6, x7, x8, x9, x10, x11, x12, x13, x14, x15, x16, x17, x18, x19, x20, x21, x22, x23] = some (.nx [some (false, S), some (false, lI ds), some (false, .int tn), y3, y4, y5, y6, y7, y8, y9, y10, y11, y12, y13, y14, y15, y16, y17, y18, y19, y20, y21, y22, y23]) := by
  unfold turnB
  have d1 := dv_nn hd tn
  have d2 := dv_nn hd (10 + tn)
  have d3 := dv_nn hd (70 + tn)
  have d4 := dv_nn hd (90 + tn)
  have d5 := dv_nn hd (100 + tn)
  rw [evS_nx (s0 k _ _ _ _ _ _ _ _ _ _ _ _ _ _ _ _ _ _ _ _ _ _ ds tn hd hl ht)]
  obtain ⟨m, hm, em⟩ : ∃ m, (1 ≤ m ∧ m ≤ 6) ∧ 1 + dv ds tn % 6 = m := ⟨_, by omega, rfl⟩
  obtain ⟨p, hp, ep⟩ : ∃ p, (p = 1 ∨ p = 2) ∧ 1 + dv ds (10 + tn) % 2 = p := ⟨_, by omega, rfl⟩
  rw [em, ep]
  rw [evS_nx (s1 k _ _ _ _ _ _ _ _ _ _ _ _ _ _ _ _ _ _ _ _ _ ds tn hd hl ht m hm)]
  have hraw : ∀ n ∈ ((List.range m.toNat).map fun j : Nat => 1 + dv ds (20 + 8 * tn + (0 + (j : Int))) % 40), 1 ≤ n ∧ n ≤ 40 := fun n hn => by
    obtain ⟨j, _, rfl⟩ := List.mem_map.mp hn
    have := dv_nn hd (20 + 8 * tn + (0 + (j : Int)))
    omega
  obtain ⟨ws, hw, h40, h6, ew⟩ : ∃ ws, Wk8 ws ∧ (∀ w ∈ ws, w ≤ 40) ∧ ws.length ≤ 6 ∧ rawW ds tn m = ws := by
    refine ⟨_, ?_, fun w hwm => ?_, ?_, rfl⟩
    · refine wk_sset _ ?_ (by rw [List.length_map, List.length_range]; omega) (fun n hn => by have := hraw n hn; omega)
      intro z
      have := congrArg List.length z
      rw [List.length_map, List.length_range] at this
      simp at this
      omega
    · exact (hraw w (ssetI_mem.mp hwm)).2
    · have := ssetI_len ((List.range m.toNat).map fun j : Nat => 1 + dv ds (20 + 8 * tn + (0 + (j : Int))) % 40)
      rw [List.length_map, List.length_range] at this
      unfold rawW
      omega
  rw [ew]
  rw [evS_nx (s2 k _ _ _ _ _ _ _ _ _ _ _ _ _ _ _ _ _ _ _ _ _ _ p hp ws hw h40 h6)]
  rw [evS_nx (s3 k _ _ _ _ _ _ _ _ _ _ _ _ _ _ _ _ _ _ _ _ _ p hp ws hw h40 h6)]
  rw [evS_nx (s4 k _ _ _ _ _ _ _ _ _ _ _ _ _ _ _ _ _ _ _ _ _ _ p hp ws hw h40 h6)]
  rw [evS_nx (s5 k _ _ _ _ _ _ _ _ _ _ _ _ _ _ _ _ _ _ _ _ _ _ _ _)]
  obtain ⟨y9, e6⟩ := s6 k (some (false, S)) (some (false, lI ds)) (some (false, .int tn)) (some (false, .int m)) (some (false, dct (countsL ws p))) (some (false, .int (sumF (cnt ws p) (wbl ws p)))) x9 x10 x11 x12 x13 x14 x15 x16 x17 x18 x19 x20 x21 x22 x23 p hp ws hw h40 h6
  rw [evS_nx e6]
  rw [evS_nx (s7 k _ _ _ _ _ _ _ _ _ _ _ _ _ _ _ _ _ _ _ p hp ws hw h40 h6)]
  rw [evS_nx (s8 k _ _ _ _ _ _ _ _ _ _ _ _ _ _ _ _ _ _ _ _ _ _ ds tn hd hl ht)]
  obtain ⟨t, ht2, et⟩ : ∃ t, (2 ≤ t ∧ t ≤ 6) ∧ 2 + dv ds (70 + tn) % 5 = t := ⟨_, by omega, rfl⟩
  rw [et]
  rw [evS_nx (s9 k _ _ _ _ _ _ _ _ _ _ _ _ _ _ _ _ _ _ _ _ _ _ _ t ht2)]
  rw [evS_nx (s10 k _ _ _ _ _ _ _ _ _ _ _ _ _ _ _ _ _ _ _ _ _ _ ws hw h40 h6 t ht2)]
  rw [evS_nx (s11 k _ _ _ _ _ _ _ _ _ _ _ _ _ _ _ _ _ _ _ _ p hp ws hw h40 h6 t ht2)]
  rw [evS_nx (s12 k _ _ _ _ _ _ _ _ _ _ _ _ _ _ _ _ _ _ _ _ ds tn hd hl ht p hp ws hw h40 h6)]
  obtain ⟨a, ha, ea⟩ : ∃ a, a ∈ wbl ws p ∧ amt ds tn ws p = a := by
    obtain ⟨h, e⟩ := amt_get ds tn ws p (wbl_pos hw p) (dv_nn hd _).1
    exact ⟨_, by rw [e]; exact List.getElem_mem h, rfl⟩
  rw [ea]
  rw [evS_nx (s13 k _ _ _ _ _ _ _ _ _ _ _ _ _ _ _ _ _ _ _ p hp ws hw h40 h6 t ht2 a ha)]
  rw [evS_nx (s14 k _ _ _ _ _ _ _ _ _ _ _ _ _ _ _ _ _ _ _ _ _ p hp ws hw h40 h6 a ha)]
  rw [evS_nx (s15 k _ _ _ _ _ _ _ _ _ _ _ _ _ _ _ _ _ _ p hp ws hw h40 h6 t ht2 a ha)]
  rw [evS_nx (s16 k _ _ _ _ _ _ _ _ _ _ _ _ _ _ _ _ _ _ _ _ _ _ _ ws hw h40 h6)]
  rw [evS_nx (s17 k _ _ _ _ _ _ _ _ _ _ _ _ _ _ _ _ _ _ _ _ _ _ ws hw h40 h6)]
  obtain ⟨v, vs, hv⟩ : ∃ v vs, ws = vs ++ [v] := by
    have hne : ws ≠ [] := fun z => by have := hw.len; rw [z] at this; simp at this
    exact ⟨ws.getLast hne, ws.dropLast, (List.dropLast_concat_getLast hne).symm⟩
  rw [evS_nx (s18 k _ _ _ _ _ _ _ _ _ _ _ _ _ _ _ _ _ _ _ _ _ ds tn hd hl ht ws hw h40 h6 v vs hv)]
  have hvm : v ∈ ws := by rw [hv]; simp
  have hv1 := (hw.rng v hvm).1
  have hv2 := h40 v hvm
  obtain ⟨w, hw1, ew1⟩ : ∃ w, (v + 1 ≤ w ∧ w ≤ 70) ∧ v + 1 + dv ds (90 + tn) % 30 = w := ⟨_, by omega, rfl⟩
  rw [ew1]
  rw [evS_nx (s19 k _ _ _ _ _ _ _ _ _ _ _ _ _ _ _ _ _ _ _ _ _ _ _ w)]
  rw [evS_nx (s20 k _ _ _ _ _ _ _ _ _ _ _ _ _ _ _ _ _ _ _ _ _ _ ws hw h40 h6 w)]
  rw [evS_nx (s21 k _ _ _ _ _ _ _ _ _ _ _ _ _ _ _ _ _ _ _ _ _ _ _ (ws ++ [w]))]
  have hmore : Wk8 (ws ++ [w]) := {
    asc := by
      rw [List.pairwise_append]
      refine ⟨hw.asc, by simp, fun x hx y hy => ?_⟩
      simp at hy
      subst hy
      rw [hv] at hx
      have ha := hw.asc
      rw [hv, List.pairwise_append] at ha
      rcases List.mem_append.mp hx with h | h
      · have := ha.2.2 x h v (by simp)
        omega
      · simp at h; omega
    rng := fun x hx => by
      rcases List.mem_append.mp hx with h | h
      · exact hw.rng x h
      · simp at h; omega
    len := by rw [List.length_append]; simp; omega
    l8 := by rw [List.length_append]; simp; omega }
  have hab := wbl_bd (B := 40) (fun z h => ⟨(hw.rng z h).1, h40 z h⟩) ha
  obtain ⟨y17, y18, e22⟩ := s22 k (some (false, S)) (some (false, lI ds)) (some (false, .int tn)) (some (false, .int m)) (some (false, tpI ws)) (some (false, .int (sumF (cnt ws p) (wbl ws p)))) (some (false, .int (powI (p + 1) ws.length))) y9 (some (false, .int t)) (some (false, tpI (ws.map (t * ·)))) (some (false, tpI (fewW ws p a))) (some (false, tpI (wbl ws 2))) x19 x20 x21 x22 x23 x17 x18 p hp ws a w hmore ⟨by omega, by omega⟩ ⟨by omega, by omega⟩
  rw [evS_nx e22]
  rw [evS_nx (s23 k _ _ _ _ _ _ _ _ _ _ _ _ _ _ _ _ _ _ _ _ _ _ ds tn hd hl ht)]
  obtain ⟨s, hs, es⟩ : ∃ s : Nat, (1 ≤ s ∧ s ≤ 6) ∧ 1 + dv ds (100 + tn) % 6 = (s : Int) := ⟨(1 + dv ds (100 + tn) % 6).toNat, by omega, by omega⟩
  rw [es]
  rw [evS_nx (s24 k _ _ _ _ _ _ _ _ _ _ _ _ _ _ _ _ _ _ _ _ _ _ _ (s : Int))]
  rw [evS_nx (s25 k _ _ _ _ _ _ _ _ _ _ _ _ _ _ _ _ _ _ _ _ _ _ _ _)]
  obtain ⟨y21, e26⟩ := s26 k (some (false, S)) (some (false, lI ds)) (some (false, .int tn)) (some (false, .int m)) (some (false, tpI ws)) (some (false, dct (countsL ws p))) (some (false, .int (sumF (cnt ws p) (wbl ws p)))) (some (false, .int (powI (p + 1) ws.length))) y9 (some (false, .int t)) (some (false, tpI (ws.map (t * ·)))) (some (false, .int a)) (some (false, tpI (fewW ws p a))) (some (false, tpI (wbl ws 2))) (some (false, .int w)) (some (false, tpI (ws ++ [w]))) y17 y18 x22 x23 x21 p hp s hs.1 hs.2
  rw [show pws (p + 1) (0 + 1) = [1] from rfl] at e26
  rw [evS_nx e26]
  rw [evS_nx (s27 k _ _ _ _ _ _ _ _ _ _ _ _ _ _ _ _ _ _ _ _ _ _ _ (pws (p + 1) s))]
  rw [evS_nx (s28 k _ _ _ _ _ _ _ _ _ _ _ _ _ _ _ _ _ _ _ _ _ p hp s hs.1 hs.2)]
  rw [evS_nx (s29 k _ _ _ _ _ _ _ _ _ _ _ _ _ _ _ _ _ _ _ ds tn hd hl ht p hp s hs.1 hs.2)]
  rw [evS_nil]
  exact ⟨_, _, _, _, _, _, _, _, _, _, _, _, _, _, _, _, _, _, _, _, _, rfl⟩
theorem k_law : (tabOf tab).lookup ("law" : Str) = some t_law.df := by rfl
theorem plain_law (ns : List Int) (h : ns.length ≤ 63) : callN (glI inf) 100000 (tabOf tab) 40 "law" [lkD ns] = some (.bool true) := by
  show C (39 + 1) "law" [lkD ns] = _
  rw [cS k_law]
  obtain ⟨ds, e, hd, hl⟩ := c__law_draws 38 ns 200 h (by omega)
  have hb : t_law.body = .cons (.set 1 (.call "_law_draws" (.cons (.var 0) (.cons (.int 200) .nil)))) (.cons (.for_ (.nm 2) (.range1 (.int 5)) turnB) (.cons (.ret (.bl true)) .nil)) := by rfl
  have z := z_for (gl := glI inf) (c := C 39) (n := 100000) (ρ := [some (false, lkD ns), some (false, lI ds), none, none, none, none, none, none, none, none, none, none, none, none, none, none, none, none, none, none, none, none, none, none]) (t := .nm 2) (it := .range1 (.int 5)) (b := turnB) (l := List.range 5) (fun i : Nat => .int (0 + (i : Int)))
    (fun rest ρ => (∀ i ∈ rest, i < 5) ∧ ∃ x2 x3 x4 x5 x6 x7 x8 x9 x10 x11 x12 x13 x14 x15 x16 x17 x18 x19 x20 x21 x22 x23, ρ = [some (false, lkD ns), some (false, lI ds), x2, x3, x4, x5, x6, x7, x8, x9, x10, x11, x12, x13, x14, x15, x16, x17, x18, x19, x20, x21, x22, x23])
    (by first | (simp only [e_non, e_bl, e_int, e_str, e_var, e_glob, e_bin, e_neg, e_cmp, e_isN, e_notN, e_chain, e_and_, e_or_, e_not_, e_ite, e_tup, e_lst, e_idx, e_sl, e_rev, e_sset, e_rng, e_call, e_callv, e_blt, e_isi, e_dis, e_dget, z_frz, z_app, z_ext, z_drop, z_set, z_setT, z_par, z_aug, z_put, z_augPut, z_ite, z_ret, z_retN, z_pass, z_brk, z_cont, z_never, z_nil, z_cons, evAnd, evOr, evF, evV, evKV, evI, evC, evP, seqF, setS, varOf, parS, augS, augI, appS, extS, putS, frzL, frzR, bindT, bindL, wipeR, kz, bz, oneI, dBin, dCmp, cLt, cLe, cGt, cGe, cEq_int, cNe_int, dIdx, dBi, bLen, bAbs, bInt, bSum, bMin, bMax, bAny, bAll, bSorted, bList, bTuple, isiD, noneB, fewD, dSl, Option.bind_some, Option.map_some, Option.bind_none, Option.map_none, isKey, keyD, zipD, intsD_map, boolsD_map, boolsD_mapf, intsD_mapf, Option.isSome_some, Nat.reduceLeDiff, Nat.zero_le, List.foldl_nil, List.length_cons, List.length_nil, List.length_map, List.map_cons, List.map_nil, List.cons_append, List.nil_append, List.replicate, List.getElem?_cons_zero, List.getElem?_cons_succ, List.set_cons_zero, List.set_cons_succ, ↓reduceIte, Bool.not_true, Bool.not_false, and_self, and_true, true_and, Bool.false_eq_true, reduceCtorEq, decide_true, decide_false, Nat.reduceAdd, Nat.reduceLT, Nat.reduceSub, Nat.reduceEqDiff, ne_eq, not_true_eq_false, not_false_eq_true, Option.some.injEq, exists_eq_left, Int.reduceNeg, beq_self_eq_true, Nat.zero_add, Nat.add_zero]; rfl) | simp only [e_non, e_bl, e_int, e_str, e_var, e_glob, e_bin, e_neg, e_cmp, e_isN, e_notN, e_chain, e_and_, e_or_, e_not_, e_ite, e_tup, e_lst, e_idx, e_sl, e_rev, e_sset, e_rng, e_call, e_callv, e_blt, e_isi, e_dis, e_dget, z_frz, z_app, z_ext, z_drop, z_set, z_setT, z_par, z_aug, z_put, z_augPut, z_ite, z_ret, z_retN, z_pass, z_brk, z_cont, z_never, z_nil, z_cons, evAnd, evOr, evF, evV, evKV, evI, evC, evP, seqF, setS, varOf, parS, augS, augI, appS, extS, putS, frzL, frzR, bindT, bindL, wipeR, kz, bz, oneI, dBin, dCmp, cLt, cLe, cGt, cGe, cEq_int, cNe_int, dIdx, dBi, bLen, bAbs, bInt, bSum, bMin, bMax, bAny, bAll, bSorted, bList, bTuple, isiD, noneB, fewD, dSl, Option.bind_some, Option.map_some, Option.bind_none, Option.map_none, isKey, keyD, zipD, intsD_map, boolsD_map, boolsD_mapf, intsD_mapf, Option.isSome_some, Nat.reduceLeDiff, Nat.zero_le, List.foldl_nil, List.length_cons, List.length_nil, List.length_map, List.map_cons, List.map_nil, List.cons_append, List.nil_append, List.replicate, List.getElem?_cons_zero, List.getElem?_cons_succ, List.set_cons_zero, List.set_cons_succ, ↓reduceIte, Bool.not_true, Bool.not_false, and_self, and_true, true_and, Bool.false_eq_true, reduceCtorEq, decide_true, decide_false, Nat.reduceAdd, Nat.reduceLT, Nat.reduceSub, Nat.reduceEqDiff, ne_eq, not_true_eq_false, not_false_eq_true, Option.some.injEq, exists_eq_left, Int.reduceNeg, beq_self_eq_true, Nat.zero_add, Nat.add_zero] | rfl) ⟨fun i hi => List.mem_range.mp hi, _, _, _, _, _, _, _, _, _, _, _, _, _, _, _, _, _, _, _, _, _, _, rfl⟩ ?_
  · obtain ⟨ρ', h1, _, x2, x3, x4, x5, x6, x7, x8, x9, x10, x11, x12, x13, x14, x15, x16, x17, x18, x19, x20, x21, x22, x23, h2⟩ := z
    subst h2
    have e' : C 39 "_law_draws" [lkD ns, .int 200] = some (lI ds) := e
    simp only [run1, Tx.df, hb]
    simp only [e_non, e_bl, e_int, e_str, e_var, e_glob, e_bin, e_neg, e_cmp, e_isN, e_notN, e_chain, e_and_, e_or_, e_not_, e_ite, e_tup, e_lst, e_idx, e_sl, e_rev, e_sset, e_rng, e_call, e_callv, e_blt, e_isi, e_dis, e_dget, z_frz, z_app, z_ext, z_drop, z_set, z_setT, z_par, z_aug, z_put, z_augPut, z_ite, z_ret, z_retN, z_pass, z_brk, z_cont, z_never, z_nil, z_cons, evAnd, evOr, evF, evV, evKV, evI, evC, evP, seqF, setS, varOf, parS, augS, augI, appS, extS, putS, frzL, frzR, bindT, bindL, wipeR, kz, bz, oneI, dBin, dCmp, cLt, cLe, cGt, cGe, cEq_int, cNe_int, dIdx, dBi, bLen, bAbs, bInt, bSum, bMin, bMax, bAny, bAll, bSorted, bList, bTuple, isiD, noneB, fewD, dSl, Option.bind_some, Option.map_some, Option.bind_none, Option.map_none, isKey, keyD, zipD, intsD_map, boolsD_map, boolsD_mapf, intsD_mapf, Option.isSome_some, Nat.reduceLeDiff, Nat.zero_le, List.foldl_nil, List.length_cons, List.length_nil, List.length_map, List.map_cons, List.map_nil, List.cons_append, List.nil_append, List.replicate, List.getElem?_cons_zero, List.getElem?_cons_succ, List.set_cons_zero, List.set_cons_succ, ↓reduceIte, Bool.not_true, Bool.not_false, and_self, and_true, true_and, Bool.false_eq_true, reduceCtorEq, decide_true, decide_false, Nat.reduceAdd, Nat.reduceLT, Nat.reduceSub, Nat.reduceEqDiff, ne_eq, not_true_eq_false, not_false_eq_true, Option.some.injEq, exists_eq_left, Int.reduceNeg, beq_self_eq_true, Nat.zero_add, Nat.add_zero, t_law, e', h1]
  · rintro q r ρ ⟨hi, x2, x3, x4, x5, x6, x7, x8, x9, x10, x11, x12, x13, x14, x15, x16, x17, x18, x19, x20, x21, x22, x23, rfl⟩
    have hq := hi q (List.mem_cons_self ..)
    obtain ⟨y3, y4, y5, y6, y7, y8, y9, y10, y11, y12, y13, y14, y15, y16, y17, y18, y19, y20, y21, y22, y23, et⟩ := turn_ok 19 (lkD ns) ds (0 + (q : Int)) hd hl (by omega) x3 x4 x5 x6 x7 x8 x9 x10 x11 x12 x13 x14 x15 x16 x17 x18 x19 x20 x21 x22 x23
    exact ⟨_, _, by first | (simp only [e_non, e_bl, e_int, e_str, e_var, e_glob, e_bin, e_neg, e_cmp, e_isN, e_notN, e_chain, e_and_, e_or_, e_not_, e_ite, e_tup, e_lst, e_idx, e_sl, e_rev, e_sset, e_rng, e_call, e_callv, e_blt, e_isi, e_dis, e_dget, z_frz, z_app, z_ext, z_drop, z_set, z_setT, z_par, z_aug, z_put, z_augPut, z_ite, z_ret, z_retN, z_pass, z_brk, z_cont, z_never, z_nil, z_cons, evAnd, evOr, evF, evV, evKV, evI, evC, evP, seqF, setS, varOf, parS, augS, augI, appS, extS, putS, frzL, frzR, bindT, bindL, wipeR, kz, bz, oneI, dBin, dCmp, cLt, cLe, cGt, cGe, cEq_int, cNe_int, dIdx, dBi, bLen, bAbs, bInt, bSum, bMin, bMax, bAny, bAll, bSorted, bList, bTuple, isiD, noneB, fewD, dSl, Option.bind_some, Option.map_some, Option.bind_none, Option.map_none, isKey, keyD, zipD, intsD_map, boolsD_map, boolsD_mapf, intsD_mapf, Option.isSome_some, Nat.reduceLeDiff, Nat.zero_le, List.foldl_nil, List.length_cons, List.length_nil, List.length_map, List.map_cons, List.map_nil, List.cons_append, List.nil_append, List.replicate, List.getElem?_cons_zero, List.getElem?_cons_succ, List.set_cons_zero, List.set_cons_succ, ↓reduceIte, Bool.not_true, Bool.not_false, and_self, and_true, true_and, Bool.false_eq_true, reduceCtorEq, decide_true, decide_false, Nat.reduceAdd, Nat.reduceLT, Nat.reduceSub, Nat.reduceEqDiff, ne_eq, not_true_eq_false, not_false_eq_true, Option.some.injEq, exists_eq_left, Int.reduceNeg, beq_self_eq_true, Nat.zero_add, Nat.add_zero]; done) | (simp only [e_non, e_bl, e_int, e_str, e_var, e_glob, e_bin, e_neg, e_cmp, e_isN, e_notN, e_chain, e_and_, e_or_, e_not_, e_ite, e_tup, e_lst, e_idx, e_sl, e_rev, e_sset, e_rng, e_call, e_callv, e_blt, e_isi, e_dis, e_dget, z_frz, z_app, z_ext, z_drop, z_set, z_setT, z_par, z_aug, z_put, z_augPut, z_ite, z_ret, z_retN, z_pass, z_brk, z_cont, z_never, z_nil, z_cons, evAnd, evOr, evF, evV, evKV, evI, evC, evP, seqF, setS, varOf, parS, augS, augI, appS, extS, putS, frzL, frzR, bindT, bindL, wipeR, kz, bz, oneI, dBin, dCmp, cLt, cLe, cGt, cGe, cEq_int, cNe_int, dIdx, dBi, bLen, bAbs, bInt, bSum, bMin, bMax, bAny, bAll, bSorted, bList, bTuple, isiD, noneB, fewD, dSl, Option.bind_some, Option.map_some, Option.bind_none, Option.map_none, isKey, keyD, zipD, intsD_map, boolsD_map, boolsD_mapf, intsD_mapf, Option.isSome_some, Nat.reduceLeDiff, Nat.zero_le, List.foldl_nil, List.length_cons, List.length_nil, List.length_map, List.map_cons, List.map_nil, List.cons_append, List.nil_append, List.replicate, List.getElem?_cons_zero, List.getElem?_cons_succ, List.set_cons_zero, List.set_cons_succ, ↓reduceIte, Bool.not_true, Bool.not_false, and_self, and_true, true_and, Bool.false_eq_true, reduceCtorEq, decide_true, decide_false, Nat.reduceAdd, Nat.reduceLT, Nat.reduceSub, Nat.reduceEqDiff, ne_eq, not_true_eq_false, not_false_eq_true, Option.some.injEq, exists_eq_left, Int.reduceNeg, beq_self_eq_true, Nat.zero_add, Nat.add_zero]; rfl), .inl et, fun i h => hi i (List.mem_cons_of_mem _ h), _, _, _, _, _, _, _, _, _, _, _, _, _, _, _, _, _, _, _, _, _, _, rfl⟩
end Bw.K3

namespace Bw
namespace K3
open PySem PySem.Spec PyProof.Rows L2
abbrev RowR : PySem.W.OpenRow := PySem.W.OpenLaw.row PySem.Challenge.rw_bakewright_k03_main_weights_go_along
abbrev facts : List He.Fa := faOf inf tab
abbrev hkk : PySem.W.Hook := He.hookD 4 facts (fnsOf tab)
def obs (s : PySem.W.SharedT) : He.AlD := He.obsDG 4 facts (fnsOf tab) (HandSHeadRun.getT s)
theorem obs_eq (s : PySem.W.SharedT) : obs s = hkk.obs s.abs := He.obsDG_eq (HandSHeadRun.getT_eq s)
def loose : List PySem.Str := ["BakeError", "BadMost", "BadWeights", "BadPans", "BadAmount", "is_whole", "ascends", "MOST_WEIGHTS",
  "MOST_WEIGHT", "MOST_AMOUNT", "MOST_ALL", "FORM", "_check_weights", "_check_pans", "_check_amount", "_places",
  "_counts", "weighable", "ways_to", "_first", "first_way", "fewest_used", "_weighed", "way_fault", "_gap", "gap",
  "_check_most", "is_enough", "_law_draws", "_law_ways"]
theorem run (w : World) : HandSHeadRun.RunEq RowR (PySem.W.view RowR.prog [34]) hkk obs 6000 loose w := by
  intro os
  kernel_rfl
end K3
end Bw
open PySem PySem.W PySem.Calls PyProof.Rows
theorem PySem.Challenge.cw_bakewright_k03_main_weights_go_along_holds : PySem.Challenge.rw_bakewright_k03_main_weights_go_along.Holds := by
  have law := Bw.K3.plain_law
  w_on; o_law
  refine HandSHeadRun.head_any (r := OpenLaw.row PySem.Challenge.rw_bakewright_k03_main_weights_go_along) (q := view (OpenLaw.row PySem.Challenge.rw_bakewright_k03_main_weights_go_along).prog [34]) (H := Bw.K3.hkk) (ob := Bw.K3.obs) (M := 6000) (loose := Bw.K3.loose) (d := HandSHeadRun.topDef (OpenLaw.row PySem.Challenge.rw_bakewright_k03_main_weights_go_along).prog 34) (kwd := []) Bw.K3.obs_eq
    (by kernel_rfl) (fun s => by kernel_rfl) Bw.K3.run (by kernel_rfl) (by kernel_rfl) (by kernel_rfl) (by rfl) (by first | assumption | decide +kernel) (by decide +kernel) ⟨rfl, rfl, rfl, rfl, rfl, by decide +kernel⟩ ?hw ?hc
  case hw => w_witness2
  case hc =>
    refine L2.walk_ofE (l := PySem.Challenge.rw_bakewright_k03_main_weights_go_along) (n := 63) (k := 40) (x := "script") (CX := L2.CX0) rfl (by decide) (by kernel_rfl) ⟨rfl, by decide, by decide⟩ ?F (fun _ _ _ _ z => z)
    intro w mg fa h Y G hmg0
    obtain ⟨K, KX, c⟩ := Y
    have hmg : mg ("law" : PySem.Str) = some (.ref fa) := by
      have e : (HandSHeadRun.topDef (OpenLaw.row PySem.Challenge.rw_bakewright_k03_main_weights_go_along).prog 34).name = ("law" : PySem.Str) := by kernel_rfl
      rw [← e]
      exact hmg0
    obtain ⟨fd, sp, hb, hs, hF⟩ := Bw.law_ok (P := (PySem.Challenge.rw_bakewright_k03_main_weights_go_along).prog) (w := w) (fuel := 100000) (k := 39) (t := Bw.K3.t_law) KX G c Bw.K3.allB Bw.K3.tabs_ok rfl rfl (by decide +kernel) (by rfl) rfl hmg law
    exact ⟨K, fd, sp, KX, hb, fun H a ns hl _ hS => hs H a ns hl hS, hF⟩

