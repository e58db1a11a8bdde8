import PyProof.Rows.All
import Wide.All
import OpenK.AllK
import Wide.FinOn
import HandS.ForMost
import HandS.Nested
import HandS.DictComp
import HandS.Property
import HandS.TupLe
import HandS.TupLen
import HandS.IsInst
import HandS.TupAny
import HandS.Strs
import HandS.Text
import HandS.Deep
import KE.SortUse
import KE.DataCmp
import HandS.Star
import HandS.Zip
import HandS.Codes
import HandS.Small
import KE.GoesEnum
import HandS.WordsDict
import HandS.SortKw
import KE.KSortKey
import HandS.HeadWalk
import HandS.HeadNt
import HandS.HeadHook4
import HandS.HeadHook3
import HandS.HeadHook2
import HandS.HeadHook1
import HandS.HeadEnd
import HandS.Head2
import HandS.Head1
import HandS.Head0
import HandS.Defaults
import HandS.Conv
import HandS.TupMul
import HandS.SetFor
import HandS.Sort
import PySem.Challenge.RW_rainbowways_k34_whole_fewest_colours_of
section
set_option Elab.async false
set_option autoImplicit false
set_option linter.all false
set_option maxRecDepth 100000
set_option maxHeartbeats 1000000
/-! Rv1: values by value, and how they lie in the hand layer's abstract heap. -/
namespace Rv
open PySem PySem.Spec L2
open PyProof.Rows hiding St

inductive T where
  | non | bl (b : Bool) | int (i : Int) | str (x : Str)
  | tup (k : Bool) (l : List T) | lst (l : List T)
  | dic (ks : List Key) (l : List T)
  | dit (ks : List (List Key)) (l : List T)
  | ins (c : Nat) (fs : List Str) (l : List T)
  | fn (q : Str) (f c : Addr) (ws : List V) (l : List T)
  | gfn (i : Nat)
  | frl (l : List T)
  deriving Inhabited
/-- a text of real signs -/
def sOk (x : Str) : Bool := x.cps.all (· < 0x110000) && decide (x.length ≤ 16777216)

/-- whose a local's object is: nobody's in particular, the local's own, the caller's own (given to be changed) -/
inductive Own where
  | fr | ow | io
  deriving DecidableEq, Inhabited

/-- the written part, the classes' and the defs' addresses, the tables of code objects -/
structure Wd where
  K : PySem.W.Frag
  ca : Nat → Addr
  fa : Nat → Addr
  tb : List NdefX.NTab

abbrev Av := Addr → Prop
def isTbl : HO → Bool
  | .tbl _ => true
  | _ => false
/-- all but tables stays -/
def ExtN (H H' : Hp) : Prop := ∀ a o, H a = some o → isTbl o = false → H' a = some o
theorem ExtN.refl (H : Hp) : ExtN H H := fun _ _ h _ => h
theorem ExtN.trans {H H1 H2 : Hp} (a : ExtN H H1) (b : ExtN H1 H2) : ExtN H H2 := fun c o h n => b c o (a c o h n) n
theorem ExtN.upd {H : Hp} {p : Addr} {o : HO} (h : H p = none) : ExtN H (upd H p o) := fun a u e _ => by
  rw [upd_ne (ne_of_none e h)]; exact e
theorem ExtN.lam {H H' : Hp} (e : LamX.ExtN H H') : ExtN H H' := fun a o h n => e a o h fun ps z => by subst z; cases n
theorem ExtN.to {H H' : Hp} (e : ExtN H H') : LamX.ExtN H H' := fun a o h n => e a o h (by cases o <;> first | rfl | exact absurd rfl (n _))

/-- nothing but a table may stand at a -/
def Nw (H : Hp) (a : Addr) : Prop := ∀ o, H a = some o → isTbl o = true
theorem Nw.of {H : Hp} {a : Addr} (h : H a = none) : Nw H a := fun o e => by rw [h] at e; cases e
def Kt (K : PySem.W.Frag) (a : Addr) (xs : List V) : Prop :=
  ∃ (o : Obj) (its : Array Value) (n : Nat), K.lookup a = some o ∧ o.cls = .type "tuple" ∧ o.dict = none ∧ o.data = .seq its n ∧ its.size ≤ sizeLine ∧ Vals xs its.toList
def Kl (K : PySem.W.Frag) (a : Addr) (xs : List V) : Prop :=
  ∃ (o : Obj) (its : Array Value) (n : Nat), K.lookup a = some o ∧ o.cls = .type "list" ∧ o.dict = none ∧ o.data = .seq its n ∧ its.size ≤ sizeLine ∧ Vals xs its.toList
/-- a tuple; k: its very object is known -/
def SqTa (K : PySem.W.Frag) (H : Hp) (av : Av) (k : Bool) (a : Addr) (xs : List V) : Prop :=
  (¬ av a ∧ ((k = false ∧ H a = some (.tup xs)) ∨ (k = true ∧ ∃ o : Obj, o.dict = none ∧ H a = some (.frz o (.tup xs))))) ∨ Kt K a xs
def SqLa (K : PySem.W.Frag) (H : Hp) (av : Av) (a : Addr) (xs : List V) : Prop := (¬ av a ∧ Rd H a (.lst xs)) ∨ Kl K a xs
theorem SqTa.sq {K : PySem.W.Frag} {H : Hp} {av : Av} {k : Bool} {a : Addr} {xs : List V} (h : SqTa K H av k a xs) : SqT K H a xs := by
  rcases h with ⟨_, ⟨_, h⟩ | ⟨_, o, _, h⟩⟩ | ⟨o, its, n, h1, h2, _, h3, h4, h5⟩
  · exact .inl (.inl h)
  · exact .inl (.inr ⟨o, h⟩)
  · exact .inr ⟨o, its, n, h1, h2, h3, h4, h5⟩
theorem SqLa.sq {K : PySem.W.Frag} {H : Hp} {av : Av} {a : Addr} {xs : List V} (h : SqLa K H av a xs) : SqL K H a xs := h.elim (fun z => .inl z.2) fun z => .inr z

mutual
def Rp (W : Wd) (H : Hp) (av : Av) : T → V → Prop
  | .non, v => v = .non
  | .bl b, v => v = .bl b
  | .int i, v => v = .int i
  | .str x, v => v = .str x ∧ sOk x = true
  | .gfn i, v => v = .ref (W.fa i)
  | .fn q f c ws l, v => v = .ref f ∧ ¬ av c ∧ H c = some (LamX.CodeO c q) ∧ RpL W H av l ws
  | .frl l, v => ∃ a xs, v = .ref a ∧ SqLa W.K H av a xs ∧ RpL W H av l xs
  | .tup k l, v => ∃ a xs, v = .ref a ∧ SqTa W.K H av k a xs ∧ RpL W H av l xs
  | .lst l, v => ∃ a xs, v = .ref a ∧ ¬ av a ∧ H a = some (.lst xs) ∧ RpL W H av l xs
  | .dic ks l, v => ∃ a kvs, v = .ref a ∧ ¬ av a ∧ H a = some (.dK kvs) ∧ kvs.map (·.1) = ks ∧ RpL W H av l (kvs.map (·.2))
  | .dit ks l, v => ∃ a kvs, v = .ref a ∧ ¬ av a ∧ H a = some (.dT kvs) ∧ kvs.map (·.1) = ks ∧ RpL W H av l (kvs.map (·.2))
  | .ins c fs l, v => ∃ a dx kvs, v = .ref a ∧ ¬ av a ∧ H a = some (.ins (W.ca c) dx kvs) ∧ kvs.map (·.1) = fs ∧ RpL W H av l (kvs.map (·.2))
def RpL (W : Wd) (H : Hp) (av : Av) : List T → List V → Prop
  | [], xs => xs = []
  | t :: ts, xs => ∃ y ys, xs = y :: ys ∧ Rp W H av t y ∧ RpL W H av ts ys
end

/-- what a read needs: the value's own object may be anybody's -/
def Rt (W : Wd) (H : Hp) (av : Av) : T → V → Prop
  | .lst l, v => ∃ a xs, v = .ref a ∧ H a = some (.lst xs) ∧ RpL W H av l xs
  | .dic ks l, v => ∃ a kvs, v = .ref a ∧ H a = some (.dK kvs) ∧ kvs.map (·.1) = ks ∧ RpL W H av l (kvs.map (·.2))
  | .dit ks l, v => ∃ a kvs, v = .ref a ∧ H a = some (.dT kvs) ∧ kvs.map (·.1) = ks ∧ RpL W H av l (kvs.map (·.2))
  | .ins c fs l, v => ∃ a dx kvs, v = .ref a ∧ H a = some (.ins (W.ca c) dx kvs) ∧ kvs.map (·.1) = fs ∧ RpL W H av l (kvs.map (·.2))
  | t, v => Rp W H av t v
/-- the object at p, that may be changed, holds t -/
def Cl (W : Wd) (H : Hp) (av : Av) (p : Addr) : T → Prop
  | .lst l => ∃ xs, H p = some (.lst xs) ∧ RpL W H av l xs
  | .dic ks l => ∃ kvs, H p = some (.dK kvs) ∧ kvs.map (·.1) = ks ∧ RpL W H av l (kvs.map (·.2))
  | .dit ks l => ∃ kvs, H p = some (.dT kvs) ∧ kvs.map (·.1) = ks ∧ RpL W H av l (kvs.map (·.2))
  | .ins c fs l => ∃ dx kvs, H p = some (.ins (W.ca c) dx kvs) ∧ kvs.map (·.1) = fs ∧ RpL W H av l (kvs.map (·.2))
  | _ => False

section
variable {W : Wd} {H H' : Hp} {av av' : Av}
/-- Rd of what is no table is kept -/
theorem Rd.keep {a : Addr} {u : HO} (h : Rd H a u) (n : isTbl u = false) (k : ∀ o, H a = some o → isTbl o = false → H' a = some o) : Rd H' a u := by
  rcases h with h | ⟨o, h⟩
  · exact .inl (k _ h n)
  · exact .inr ⟨o, k _ h rfl⟩
mutual
/-- less to avoid, more kept -/
theorem Rp.move (hm : ∀ a, av' a → av a) (k : ∀ a o, ¬ av a → H a = some o → isTbl o = false → H' a = some o) : ∀ (t : T) (v : V), Rp W H av t v → Rp W H' av' t v
  | .non, v, h => by simpa only [Rp] using h
  | .bl _, v, h => by simpa only [Rp] using h
  | .int _, v, h => by simpa only [Rp] using h
  | .str _, v, h => by simpa only [Rp] using h
  | .gfn _, v, h => by simpa only [Rp] using h
  | .fn q f c ws l, v, h => by
    simp only [Rp] at h ⊢
    obtain ⟨e, n, s, r⟩ := h
    exact ⟨e, fun z => n (hm c z), k c _ n s rfl, RpL.move hm k l ws r⟩
  | .tup kk l, v, h => by
    simp only [Rp] at h ⊢
    obtain ⟨a, xs, e, s, r⟩ := h
    refine ⟨a, xs, e, ?_, RpL.move hm k l xs r⟩
    rcases s with ⟨n, ⟨q, s⟩ | ⟨q, o, d, s⟩⟩ | s
    · exact .inl ⟨fun z => n (hm a z), .inl ⟨q, k a _ n s rfl⟩⟩
    · exact .inl ⟨fun z => n (hm a z), .inr ⟨q, o, d, k a _ n s rfl⟩⟩
    · exact .inr s
  | .frl l, v, h => by
    simp only [Rp] at h ⊢
    obtain ⟨a, xs, e, s, r⟩ := h
    refine ⟨a, xs, e, ?_, RpL.move hm k l xs r⟩
    rcases s with ⟨n, s⟩ | s
    · exact .inl ⟨fun z => n (hm a z), Rd.keep s rfl fun o e n' => k a o n e n'⟩
    · exact .inr s
  | .lst l, v, h => by
    simp only [Rp] at h ⊢
    obtain ⟨a, xs, e, n, s, r⟩ := h
    exact ⟨a, xs, e, fun z => n (hm a z), k a _ n s rfl, RpL.move hm k l xs r⟩
  | .dic ks l, v, h => by
    simp only [Rp] at h ⊢
    obtain ⟨a, kvs, e, n, s, f, r⟩ := h
    exact ⟨a, kvs, e, fun z => n (hm a z), k a _ n s rfl, f, RpL.move hm k l _ r⟩
  | .dit ks l, v, h => by
    simp only [Rp] at h ⊢
    obtain ⟨a, kvs, e, n, s, f, r⟩ := h
    exact ⟨a, kvs, e, fun z => n (hm a z), k a _ n s rfl, f, RpL.move hm k l _ r⟩
  | .ins c fs l, v, h => by
    simp only [Rp] at h ⊢
    obtain ⟨a, dx, kvs, e, n, s, f, r⟩ := h
    exact ⟨a, dx, kvs, e, fun z => n (hm a z), k a _ n s rfl, f, RpL.move hm k l _ r⟩
theorem RpL.move (hm : ∀ a, av' a → av a) (k : ∀ a o, ¬ av a → H a = some o → isTbl o = false → H' a = some o) : ∀ (ts : List T) (vs : List V), RpL W H av ts vs → RpL W H' av' ts vs
  | [], vs, h => by simpa only [RpL] using h
  | t :: ts, vs, h => by
    simp only [RpL] at h ⊢
    obtain ⟨y, ys, e, h1, h2⟩ := h
    exact ⟨y, ys, e, Rp.move hm k t y h1, RpL.move hm k ts ys h2⟩
end
mutual
/-- what isn't tracked is avoided anyway -/
theorem Rp.avoid (hm : ∀ a, av' a → av a ∨ Nw H a) : ∀ (t : T) (v : V), Rp W H av t v → Rp W H av' t v
  | .non, v, h => by simpa only [Rp] using h
  | .bl _, v, h => by simpa only [Rp] using h
  | .int _, v, h => by simpa only [Rp] using h
  | .str _, v, h => by simpa only [Rp] using h
  | .gfn _, v, h => by simpa only [Rp] using h
  | .fn q f c ws l, v, h => by
    simp only [Rp] at h ⊢
    obtain ⟨e, n, s, r⟩ := h
    exact ⟨e, fun z => (hm c z).elim n fun q => (nomatch q _ s), s, RpL.avoid hm l ws r⟩
  | .tup kk l, v, h => by
    simp only [Rp] at h ⊢
    obtain ⟨a, xs, e, s, r⟩ := h
    refine ⟨a, xs, e, ?_, RpL.avoid hm l xs r⟩
    rcases s with ⟨n, ⟨q, s⟩ | ⟨q, o, d, s⟩⟩ | s
    · exact .inl ⟨fun z => (hm a z).elim n fun q => (nomatch q _ s), .inl ⟨q, s⟩⟩
    · exact .inl ⟨fun z => (hm a z).elim n fun q => (nomatch q _ s), .inr ⟨q, o, d, s⟩⟩
    · exact .inr s
  | .frl l, v, h => by
    simp only [Rp] at h ⊢
    obtain ⟨a, xs, e, s, r⟩ := h
    refine ⟨a, xs, e, ?_, RpL.avoid hm l xs r⟩
    rcases s with ⟨n, s⟩ | s
    · refine .inl ⟨fun z => (hm a z).elim n fun q => ?_, s⟩
      rcases s with s | ⟨o, s⟩ <;> cases q _ s
    · exact .inr s
  | .lst l, v, h => by
    simp only [Rp] at h ⊢
    obtain ⟨a, xs, e, n, s, r⟩ := h
    exact ⟨a, xs, e, fun z => (hm a z).elim n fun q => (nomatch q _ s), s, RpL.avoid hm l xs r⟩
  | .dic ks l, v, h => by
    simp only [Rp] at h ⊢
    obtain ⟨a, kvs, e, n, s, f, r⟩ := h
    exact ⟨a, kvs, e, fun z => (hm a z).elim n fun q => (nomatch q _ s), s, f, RpL.avoid hm l _ r⟩
  | .dit ks l, v, h => by
    simp only [Rp] at h ⊢
    obtain ⟨a, kvs, e, n, s, f, r⟩ := h
    exact ⟨a, kvs, e, fun z => (hm a z).elim n fun q => (nomatch q _ s), s, f, RpL.avoid hm l _ r⟩
  | .ins c fs l, v, h => by
    simp only [Rp] at h ⊢
    obtain ⟨a, dx, kvs, e, n, s, f, r⟩ := h
    exact ⟨a, dx, kvs, e, fun z => (hm a z).elim n fun q => (nomatch q _ s), s, f, RpL.avoid hm l _ r⟩
theorem RpL.avoid (hm : ∀ a, av' a → av a ∨ Nw H a) : ∀ (ts : List T) (vs : List V), RpL W H av ts vs → RpL W H av' ts vs
  | [], vs, h => by simpa only [RpL] using h
  | t :: ts, vs, h => by
    simp only [RpL] at h ⊢
    obtain ⟨y, ys, e, h1, h2⟩ := h
    exact ⟨y, ys, e, Rp.avoid hm t y h1, RpL.avoid hm ts ys h2⟩
end
theorem Rp.ext (k : ExtN H H') {t : T} {v : V} (h : Rp W H av t v) : Rp W H' av t v := h.move (fun _ z => z) (fun a o _ e n => k a o e n) t v
theorem RpL.ext (k : ExtN H H') {t : List T} {v : List V} (h : RpL W H av t v) : RpL W H' av t v := h.move (fun _ z => z) (fun a o _ e n => k a o e n) t v
theorem Rp.sub (hm : ∀ a, av' a → av a) {t : T} {v : V} (h : Rp W H av t v) : Rp W H av' t v := h.move hm (fun a o _ e n => e) t v
theorem RpL.sub (hm : ∀ a, av' a → av a) {t : List T} {v : List V} (h : RpL W H av t v) : RpL W H av' t v := h.move hm (fun a o _ e n => e) t v
theorem Rp.rt : ∀ {t : T} {v : V}, Rp W H av t v → Rt W H av t v
  | .non, _, h | .bl _, _, h | .int _, _, h | .str _, _, h | .tup _ _, _, h | .fn .., _, h | .gfn _, _, h | .frl _, _, h => h
  | .lst l, v, h => by
    simp only [Rp] at h
    obtain ⟨a, xs, e, n, s, r⟩ := h
    exact ⟨a, xs, e, s, r⟩
  | .dic .., v, h => by
    simp only [Rp] at h
    obtain ⟨a, kvs, e, n, s, f, r⟩ := h
    exact ⟨a, kvs, e, s, f, r⟩
  | .dit .., v, h => by
    simp only [Rp] at h
    obtain ⟨a, kvs, e, n, s, f, r⟩ := h
    exact ⟨a, kvs, e, s, f, r⟩
  | .ins .., v, h => by
    simp only [Rp] at h
    obtain ⟨a, dx, kvs, e, n, s, f, r⟩ := h
    exact ⟨a, dx, kvs, e, s, f, r⟩
theorem Cl.rt {p : Addr} : ∀ {t : T}, Cl W H av p t → Rt W H av t (.ref p)
  | .lst l, ⟨xs, e, r⟩ => ⟨p, xs, rfl, e, r⟩
  | .dic .., ⟨kvs, e, f, r⟩ => ⟨p, kvs, rfl, e, f, r⟩
  | .dit .., ⟨kvs, e, f, r⟩ => ⟨p, kvs, rfl, e, f, r⟩
  | .ins .., ⟨dx, kvs, e, f, r⟩ => ⟨p, dx, kvs, rfl, e, f, r⟩
theorem Cl.rp {p : Addr} (n : ¬ av p) : ∀ {t : T}, Cl W H av p t → Rp W H av t (.ref p)
  | .lst l, ⟨xs, e, r⟩ => by simp only [Rp]; exact ⟨p, xs, rfl, n, e, r⟩
  | .dic .., ⟨kvs, e, f, r⟩ => by simp only [Rp]; exact ⟨p, kvs, rfl, n, e, f, r⟩
  | .dit .., ⟨kvs, e, f, r⟩ => by simp only [Rp]; exact ⟨p, kvs, rfl, n, e, f, r⟩
  | .ins .., ⟨dx, kvs, e, f, r⟩ => by simp only [Rp]; exact ⟨p, dx, kvs, rfl, n, e, f, r⟩
theorem Cl.there {p : Addr} : ∀ {t : T}, Cl W H av p t → ∃ o, H p = some o ∧ isTbl o = false
  | .lst l, ⟨xs, e, r⟩ => ⟨_, e, rfl⟩
  | .dic .., ⟨kvs, e, f, r⟩ => ⟨_, e, rfl⟩
  | .dit .., ⟨kvs, e, f, r⟩ => ⟨_, e, rfl⟩
  | .ins .., ⟨dx, kvs, e, f, r⟩ => ⟨_, e, rfl⟩
theorem Cl.ne {p : Addr} {t : T} (c : Cl W H av p t) : H p ≠ none := by
  obtain ⟨o, e, _⟩ := c.there
  rw [e]; exact fun z => nomatch z
/-- its items moved, its own object kept -/
theorem Cl.move {p : Addr} (hp : ∀ o, H p = some o → isTbl o = false → H' p = some o) (hl : ∀ l xs, RpL W H av l xs → RpL W H' av' l xs) : ∀ {t : T}, Cl W H av p t → Cl W H' av' p t
  | .lst l, ⟨xs, e, r⟩ => ⟨xs, hp _ e rfl, hl _ _ r⟩
  | .dic .., ⟨kvs, e, f, r⟩ => ⟨kvs, hp _ e rfl, f, hl _ _ r⟩
  | .dit .., ⟨kvs, e, f, r⟩ => ⟨kvs, hp _ e rfl, f, hl _ _ r⟩
  | .ins .., ⟨dx, kvs, e, f, r⟩ => ⟨dx, kvs, hp _ e rfl, f, hl _ _ r⟩
theorem RpL.length : ∀ {ts : List T} {vs : List V}, RpL W H av ts vs → vs.length = ts.length
  | [], vs, h => by simp only [RpL] at h; subst h; rfl
  | t :: ts, vs, h => by
    simp only [RpL] at h
    obtain ⟨y, ys, rfl, h1, h2⟩ := h
    simp [RpL.length h2]
theorem RpL.get : ∀ {ts : List T} {vs : List V} {i : Nat} {t : T}, RpL W H av ts vs → ts[i]? = some t → ∃ v, vs[i]? = some v ∧ Rp W H av t v
  | [], vs, i, t, h, e => by simp at e
  | t' :: ts, vs, 0, t, h, e => by
    simp only [RpL] at h
    obtain ⟨y, ys, rfl, h1, h2⟩ := h
    simp at e; subst e
    exact ⟨y, rfl, h1⟩
  | t' :: ts, vs, i + 1, t, h, e => by
    simp only [RpL] at h
    obtain ⟨y, ys, rfl, h1, h2⟩ := h
    obtain ⟨v, a, b⟩ := RpL.get (i := i) h2 (by simpa using e)
    exact ⟨v, by simpa using a, b⟩
theorem RpL.getV {ts : List T} {vs : List V} {i : Nat} {v : V} (h : RpL W H av ts vs) (e : vs[i]? = some v) : ∃ t, ts[i]? = some t ∧ Rp W H av t v := by
  have hl := h.length
  have hi : i < ts.length := by rw [← hl]; exact (List.getElem?_eq_some_iff.mp e).1
  obtain ⟨v', e', r⟩ := h.get (List.getElem?_eq_getElem hi)
  rw [e] at e'; cases e'
  exact ⟨_, List.getElem?_eq_getElem hi, r⟩
theorem RpL.append : ∀ {ts us : List T} {vs ws : List V}, RpL W H av ts vs → RpL W H av us ws → RpL W H av (ts ++ us) (vs ++ ws)
  | [], us, vs, ws, h, h' => by simp only [RpL] at h; subst h; exact h'
  | t :: ts, us, vs, ws, h, h' => by
    simp only [RpL] at h
    obtain ⟨y, ys, rfl, h1, h2⟩ := h
    show RpL W H av (t :: (ts ++ us)) (y :: (ys ++ ws))
    simp only [RpL]
    exact ⟨y, _, rfl, h1, RpL.append h2 h'⟩
theorem RpL.one {t : T} {v : V} (h : Rp W H av t v) : RpL W H av [t] [v] := by
  simp only [RpL]; exact ⟨v, [], rfl, h, rfl⟩
theorem RpL.cons {t : T} {ts : List T} {v : V} {vs : List V} (h : Rp W H av t v) (h' : RpL W H av ts vs) : RpL W H av (t :: ts) (v :: vs) := by
  simp only [RpL]; exact ⟨v, vs, rfl, h, h'⟩
theorem RpL.nil : RpL W H av [] [] := by simp only [RpL]
theorem RpL.take : ∀ (n : Nat) {ts : List T} {vs : List V}, RpL W H av ts vs → RpL W H av (ts.take n) (vs.take n)
  | 0, _, _, _ => RpL.nil
  | n + 1, [], vs, h => by simp only [RpL] at h; subst h; exact RpL.nil
  | n + 1, t :: ts, vs, h => by
    simp only [RpL] at h
    obtain ⟨y, ys, rfl, h1, h2⟩ := h
    exact RpL.cons h1 (RpL.take n h2)
theorem RpL.drop : ∀ (n : Nat) {ts : List T} {vs : List V}, RpL W H av ts vs → RpL W H av (ts.drop n) (vs.drop n)
  | 0, _, _, h => h
  | n + 1, [], vs, h => by simp only [RpL] at h; subst h; exact RpL.nil
  | n + 1, t :: ts, vs, h => by
    simp only [RpL] at h
    obtain ⟨y, ys, rfl, h1, h2⟩ := h
    exact RpL.drop n h2
theorem RpL.set {t : T} {v : V} (hr : Rp W H av t v) : ∀ (n : Nat) {ts : List T} {vs : List V}, RpL W H av ts vs → RpL W H av (ts.set n t) (vs.set n v)
  | _, [], vs, h => by simp only [RpL] at h; subst h; exact RpL.nil
  | 0, t' :: ts, vs, h => by
    simp only [RpL] at h
    obtain ⟨y, ys, rfl, h1, h2⟩ := h
    exact RpL.cons hr h2
  | n + 1, t' :: ts, vs, h => by
    simp only [RpL] at h
    obtain ⟨y, ys, rfl, h1, h2⟩ := h
    exact RpL.cons h1 (RpL.set hr n h2)
end
end Rv
end

section
set_option Elab.async false
set_option autoImplicit false
set_option linter.all false
set_option maxRecDepth 100000
set_option maxHeartbeats 1000000
/-! Rv2: a def's state by value; readings by a function of the state. -/
namespace Rv
open PySem PySem.Spec L2
open PyProof.Rows hiding St
open Classical

abbrev Rho := List (Option (T × Own))
def rget (ρ : Rho) (i : Nat) : Option (T × Own) := ρ.getD i none
abbrev Res := T × Bool
abbrev M := Rho → Option (Res × Rho)

def Sl (W : Wd) (H : Hp) (av : Av) (pa : Option Addr) (t : T) (o : Own) (v : V) : Prop := match o with
  | .fr => pa = none ∧ Rp W H av t v
  | _ => ∃ p, pa = some p ∧ v = .ref p ∧ Cl W H av p t

def av (C : Av) (A : Nat → Option Addr) : Av := fun a => C a ∨ ∃ i, A i = some a

structure SR (W : Wd) (P : Hp) (C : Av) (Z : Option Addr) (A : Nat → Option Addr) (ρ : Rho) (σ : St) (H : Hp) : Prop where
  slots : ∀ i t o, rget ρ i = some (t, o) → ∃ v, σ[i]? = some (some v) ∧ Sl W H (av C A) (A i) t o v
  sup : ∀ i p, A i = some p → ∃ t o, rget ρ i = some (t, o) ∧ o ≠ .fr
  inj : ∀ i j p, A i = some p → A j = some p → i = j
  dis : ∀ i p, A i = some p → ¬ C p
  ctr : ∀ a, C a → ¬ Nw H a
  keep : ∀ a o, P a = some o → H a = some o
  pnt : ∀ a o, P a = some o → isTbl o = false
  prot : ∀ i p, A i = some p → P p = none
  io : ∀ q, Z = some q → A 0 = some q ∧ ∃ t, rget ρ 0 = some (t, .io)
  tabs : NdefX.TabsN W.tb H
  len : ρ.length = σ.length

section
variable {W : Wd} {P : Hp} {C C' : Av} {Z : Option Addr} {A A' : Nat → Option Addr} {ρ ρ' : Rho} {σ : St} {H H' : Hp} {t : T} {v : V} {o : Own} {i : Nat} {p : Addr}
theorem Sl.val {pa : Option Addr} {av : Av} (h : Sl W H av pa t o v) : Rt W H av t v := by
  cases o with
  | fr => exact h.2.rt
  | ow => obtain ⟨p, _, rfl, c⟩ := h; exact c.rt
  | io => obtain ⟨p, _, rfl, c⟩ := h; exact c.rt
theorem Sl.cell {av : Av} (h : Sl W H av (some p) t o v) : v = .ref p ∧ Cl W H av p t := by
  cases o with
  | fr => cases h.1
  | ow => obtain ⟨p, e, rfl, c⟩ := h; cases e; exact ⟨rfl, c⟩
  | io => obtain ⟨p, e, rfl, c⟩ := h; cases e; exact ⟨rfl, c⟩
theorem SR.cell (S : SR W P C Z A ρ σ H) (h : A i = some p) : ∃ t o, rget ρ i = some (t, o) ∧ o ≠ .fr ∧ σ[i]? = some (some (.ref p)) ∧ Cl W H (av C A) p t := by
  obtain ⟨t, o, e, n⟩ := S.sup i p h
  obtain ⟨v, e1, s⟩ := S.slots i t o e
  rw [h] at s
  obtain ⟨rfl, c⟩ := s.cell
  exact ⟨t, o, e, n, e1, c⟩
theorem SR.atr (S : SR W P C Z A ρ σ H) (h : A i = some p) : ¬ Nw H p := by
  obtain ⟨t, o, _, _, _, c⟩ := S.cell h
  obtain ⟨u, e, n⟩ := c.there
  exact fun z => by rw [z u e] at n; cases n
theorem SR.avtr (S : SR W P C Z A ρ σ H) : ∀ a, av C A a → ¬ Nw H a := fun a h => h.elim (S.ctr a) fun ⟨i, e⟩ => S.atr e
theorem SR.read (S : SR W P C Z A ρ σ H) (h : rget ρ i = some (t, o)) : ∃ v, σ[i]? = some (some v) ∧ Rt W H (av C A) t v := by
  obtain ⟨v, e, s⟩ := S.slots i t o h
  exact ⟨v, e, s.val⟩
/-- all but the owned cells and tables -/
noncomputable def Pf (H : Hp) (A : Nat → Option Addr) : Hp := fun a => if (∃ i, A i = some a) ∨ Nw H a then none else H a
theorem Pf_some {a : Addr} {o : HO} (h : H a = some o) (n : isTbl o = false) (d : ∀ i, A i ≠ some a) : Pf H A a = some o := by
  unfold Pf
  rw [if_neg]
  · exact h
  · rintro (⟨i, e⟩ | z)
    · exact d i e
    · rw [z o h] at n; cases n
theorem of_Pf {a : Addr} {o : HO} (h : Pf H A a = some o) : H a = some o ∧ isTbl o = false ∧ ∀ i, A i ≠ some a := by
  unfold Pf at h
  split at h
  · cases h
  · rename_i q
    refine ⟨h, ?_, fun i e => q (.inl ⟨i, e⟩)⟩
    cases z : isTbl o with
    | false => rfl
    | true => exact absurd (fun o' e => by rw [h] at e; cases e; exact z) fun w => q (.inr w)
theorem SR.pf (S : SR W P C Z A ρ σ H) : SR W (Pf H A) C Z A ρ σ H where
  slots := S.slots
  sup := S.sup
  inj := S.inj
  dis := S.dis
  ctr := S.ctr
  keep := fun a o e => (of_Pf e).1
  pnt := fun a o e => (of_Pf e).2.1
  prot := fun i p e => by
    cases q : Pf H A p with
    | none => rfl
    | some o => exact absurd e ((of_Pf q).2.2 i)
  io := S.io
  tabs := S.tabs
  len := S.len
theorem SR.le (S : SR W P C Z A ρ σ H) : ∀ a o, P a = some o → Pf H A a = some o := fun a o e => Pf_some (S.keep a o e) (S.pnt a o e) fun i q => by rw [S.prot i a q] at e; cases e
theorem SR.less {P' : Hp} (S : SR W P' C Z A ρ σ H) (h : ∀ a o, P a = some o → P' a = some o) : SR W P C Z A ρ σ H where
  slots := S.slots
  sup := S.sup
  inj := S.inj
  dis := S.dis
  ctr := S.ctr
  keep := fun a o e => S.keep a o (h a o e)
  pnt := fun a o e => S.pnt a o (h a o e)
  prot := fun i p e => by
    cases q : P p with
    | none => rfl
    | some o => have := S.prot i p e; rw [h p o q] at this; cases this
  io := S.io
  tabs := S.tabs
  len := S.len
theorem Sl.sub {av av' : Av} {pa : Option Addr} (hm : ∀ a, av' a → av a) (h : Sl W H av pa t o v) : Sl W H av' pa t o v := by
  cases o with
  | fr => exact ⟨h.1, h.2.sub hm⟩
  | ow => obtain ⟨p, e, e', c⟩ := h; exact ⟨p, e, e', c.move (fun _ z _ => z) fun l xs r => r.sub hm⟩
  | io => obtain ⟨p, e, e', c⟩ := h; exact ⟨p, e, e', c.move (fun _ z _ => z) fun l xs r => r.sub hm⟩
theorem Sl.avoid {av av' : Av} {pa : Option Addr} (hm : ∀ a, av' a → av a ∨ Nw H a) (h : Sl W H av pa t o v) : Sl W H av' pa t o v := by
  cases o with
  | fr => exact ⟨h.1, h.2.avoid hm t v⟩
  | ow => obtain ⟨p, e, e', c⟩ := h; exact ⟨p, e, e', c.move (fun _ z _ => z) fun l xs r => r.avoid hm l xs⟩
  | io => obtain ⟨p, e, e', c⟩ := h; exact ⟨p, e, e', c.move (fun _ z _ => z) fun l xs r => r.avoid hm l xs⟩
theorem Sl.ext {av : Av} {pa : Option Addr} (k : ExtN H H') (h : Sl W H av pa t o v) : Sl W H' av pa t o v := by
  cases o with
  | fr => exact ⟨h.1, h.2.ext k⟩
  | ow => obtain ⟨p, e, e', c⟩ := h; exact ⟨p, e, e', c.move (k p) fun l xs r => r.ext k⟩
  | io => obtain ⟨p, e, e', c⟩ := h; exact ⟨p, e, e', c.move (k p) fun l xs r => r.ext k⟩
theorem Nw.ext {a : Addr} (k : ExtN H H') (h : ¬ Nw H a) : ¬ Nw H' a := fun z => h fun o e => by
  cases q : isTbl o with
  | true => rfl
  | false => rw [z o (k a o e q)] at q; cases q
/-- the heap grows -/
theorem SR.ext (S : SR W P C Z A ρ σ H) (k : ExtN H H') (tb : NdefX.TabsN W.tb H') : SR W P C Z A ρ σ H' where
  slots := fun i t o e => by obtain ⟨v, e1, s⟩ := S.slots i t o e; exact ⟨v, e1, s.ext k⟩
  sup := S.sup
  inj := S.inj
  dis := S.dis
  ctr := fun a h => Nw.ext k (S.ctr a h)
  keep := fun a o e => k a o (S.keep a o e) (S.pnt a o e)
  pnt := S.pnt
  prot := S.prot
  io := S.io
  tabs := tb
  len := S.len
/-- fewer outer cells to avoid -/
theorem SR.subC (S : SR W P C' Z A ρ σ H) (h : ∀ a, C a → C' a) : SR W P C Z A ρ σ H where
  slots := fun i t o e => by obtain ⟨v, e1, s⟩ := S.slots i t o e; exact ⟨v, e1, s.sub fun a z => z.elim (fun z => .inl (h a z)) .inr⟩
  sup := S.sup
  inj := S.inj
  dis := fun i p e z => S.dis i p e (h p z)
  ctr := fun a z => S.ctr a (h a z)
  keep := S.keep
  pnt := S.pnt
  prot := S.prot
  io := S.io
  tabs := S.tabs
  len := S.len
def Cadd (C : Av) (p : Addr) : Av := fun a => C a ∨ a = p
theorem av_sub (h : ∀ a, C a → C' a) : ∀ a, av C A a → av C' A a := fun a z => z.elim (fun z => .inl (h a z)) .inr
/-- a cell that stood for nothing is made one to avoid -/
theorem SR.addC (S : SR W P C Z A ρ σ H) (n : Nw H p) (k : ExtN H H') (tb : NdefX.TabsN W.tb H') (hp : ¬ Nw H' p) : SR W P (Cadd C p) Z A ρ σ H' where
  slots := fun i t o e => by
    obtain ⟨v, e1, s⟩ := S.slots i t o e
    exact ⟨v, e1, (s.avoid (av' := av (Cadd C p) A) fun a z => z.elim (fun z => z.elim (fun z => .inl (.inl z)) fun z => .inr (z ▸ n)) fun z => .inl (.inr z)).ext k⟩
  sup := S.sup
  inj := S.inj
  dis := fun i q e z => z.elim (S.dis i q e) fun z => S.atr e (z ▸ n)
  ctr := fun a z => z.elim (fun z => Nw.ext k (S.ctr a z)) fun z => z ▸ hp
  keep := fun a o e => k a o (S.keep a o e) (S.pnt a o e)
  pnt := S.pnt
  prot := S.prot
  io := S.io
  tabs := tb
  len := S.len
end

/-! ### readings by a function of the state -/
/-- from the heap H to H': owned cells may have changed or been let go, new cells may be avoided -/
structure Mv (W : Wd) (P : Hp) (C : Av) (Z : Option Addr) (A : Nat → Option Addr) (ρ' : Rho) (σ : St) (H H' : Hp) (C' : Av) (A' : Nat → Option Addr) : Prop where
  subA : ∀ i p, A' i = some p → A i = some p
  up : ∀ a, C a → C' a
  dn : ∀ a, C' a → C a ∨ Nw H a
  dom : ∀ a, ¬ Nw H a → ¬ Nw H' a
  sr : SR W P C' Z A' ρ' σ H'
def OV (W : Wd) (H0 H' : Hp) (C' : Av) (A' : Nat → Option Addr) (r : Res) (v : V) : Prop :=
  if r.2 = true then ∃ p, v = .ref p ∧ Nw H0 p ∧ C' p ∧ Cl W H' (av C' A') p r.1 else Rp W H' (av C' A') r.1 v
def tOf (W : Wd) (f : M) : TE := fun σ H Q => ∃ P C Z A ρ r ρ', SR W P C Z A ρ σ H ∧ f ρ = some (r, ρ') ∧ ∀ v H' C' A', Mv W P C Z A ρ' σ H H' C' A' → OV W H H' C' A' r v → Q v H'
inductive Op where
  | val (f : M) | pk (i : Nat)
inductive OR where
  | v (r : Res) | p (i : Nat)
def opsM : List Op → Rho → Option (List OR × Rho)
  | [], ρ => some ([], ρ)
  | .val f :: os, ρ => match f ρ with
    | none => none
    | some (r, ρ1) => match opsM os ρ1 with
      | none => none
      | some (rs, ρ2) => some (.v r :: rs, ρ2)
  | .pk i :: os, ρ => match rget ρ i with
    | none => none
    | some _ => match opsM os ρ with
      | none => none
      | some (rs, ρ2) => some (.p i :: rs, ρ2)
def tO (W : Wd) : Op → TE
  | .val f => tOf W f
  | .pk i => tVar i
def tOs (W : Wd) : List Op → TA
  | [] => tNil
  | o :: os => tCons (tO W o) (tOs W os)
def OVr (W : Wd) (σ : St) (H0 H' : Hp) (C' : Av) (A' : Nat → Option Addr) : OR → V → Prop
  | .v r, v => OV W H0 H' C' A' r v
  | .p i, v => σ[i]? = some (some v)
def OVs (W : Wd) (σ : St) (H0 H' : Hp) (C' : Av) (A' : Nat → Option Addr) : List OR → List V → Prop
  | [], vs => vs = []
  | r :: rs, vs => ∃ v ws, vs = v :: ws ∧ OVr W σ H0 H' C' A' r v ∧ OVs W σ H0 H' C' A' rs ws
section
variable {W : Wd} {P : Hp} {C C' : Av} {Z : Option Addr} {A A' : Nat → Option Addr} {ρ ρ' ρ1 : Rho} {σ : St} {H H' H1 : Hp} {t : T} {v : V} {o : Own} {i : Nat} {p : Addr}
theorem Mv.refl (S : SR W P C Z A ρ σ H) : Mv W P C Z A ρ σ H H C A := ⟨fun _ _ z => z, fun _ z => z, fun _ z => .inl z, fun _ z => z, S⟩
theorem Mv.trans {C1 C2 : Av} {A1 A2 : Nat → Option Addr} {H2 : Hp} (S : SR W P C Z A ρ σ H) (m1 : Mv W P C Z A ρ1 σ H H1 C1 A1) (m2 : Mv W (Pf H1 A1) C1 Z A1 ρ' σ H1 H2 C2 A2) : Mv W P C Z A ρ' σ H H2 C2 A2 :=
  ⟨fun i p z => m1.subA i p (m2.subA i p z), fun a z => m2.up a (m1.up a z), fun a z => (m2.dn a z).elim (m1.dn a) fun z => .inr (Classical.byContradiction fun n => m1.dom a n z), fun a z => m2.dom a (m1.dom a z), m2.sr.less m1.sr.le⟩
/-- an operand stays what it is while others are asked -/
theorem OV.stay {C1 C2 : Av} {A1 A2 : Nat → Option Addr} {H2 : Hp} {r : Res} (m1 : SR W P C1 Z A1 ρ1 σ H1) (m2 : Mv W (Pf H1 A1) C1 Z A1 ρ' σ H1 H2 C2 A2) (h : OV W H H1 C1 A1 r v) : OV W H H2 C2 A2 r v := by
  have hav : ∀ a, av C2 A2 a → av C1 A1 a ∨ Nw H1 a := fun a z => z.elim (fun z => (m2.dn a z).elim (fun z => .inl (.inl z)) .inr) fun ⟨i, e⟩ => .inl (.inr ⟨i, m2.subA i a e⟩)
  have mvL : ∀ l xs, RpL W H1 (av C1 A1) l xs → RpL W H2 (av C2 A2) l xs := fun l xs r => (r.avoid (av' := fun a => av C2 A2 a ∨ av C1 A1 a) (fun a z => z.elim (hav a) .inl) l xs).move (fun a z => .inl z) (fun a o n e q => m2.sr.keep a o (Pf_some e q fun i z => n (.inr (.inr ⟨i, z⟩)))) l xs
  unfold OV at h ⊢
  split at h
  · rename_i hb
    rw [if_pos hb]
    obtain ⟨p, e, n, c, cl⟩ := h
    refine ⟨p, e, n, m2.up p c, cl.move (fun o e q => m2.sr.keep p o (Pf_some e q fun i z => m1.dis i p z c)) mvL⟩
  · rename_i hb
    rw [if_neg hb]
    exact (h.avoid (av' := fun a => av C2 A2 a ∨ av C1 A1 a) (fun a z => z.elim (hav a) .inl) _ _).move (fun a z => .inl z) (fun a o n e q => m2.sr.keep a o (Pf_some e q fun i z => n (.inr (.inr ⟨i, z⟩)))) _ _
theorem OV.dn {r : Res} {H0 : Hp} {C1 : Av} {A1 : Nat → Option Addr} (hd : ∀ a, ¬ Nw H a → ¬ Nw H0 a) (h : OV W H0 H1 C1 A1 r v) : OV W H H1 C1 A1 r v := by
  unfold OV at h ⊢
  split at h
  · rename_i hb
    rw [if_pos hb]
    obtain ⟨p, e, n, c, cl⟩ := h
    exact ⟨p, e, Classical.byContradiction fun z => hd p z n, c, cl⟩
  · rename_i hb
    rw [if_neg hb]
    exact h
theorem OVs.dn {rs : List OR} {vs : List V} {H0 : Hp} {C1 : Av} {A1 : Nat → Option Addr} (hd : ∀ a, ¬ Nw H a → ¬ Nw H0 a) (h : OVs W σ H0 H1 C1 A1 rs vs) : OVs W σ H H1 C1 A1 rs vs := by
  induction rs generalizing vs with
  | nil => exact h
  | cons r rs ih =>
    obtain ⟨v, ws, e, h1, h2⟩ := h
    refine ⟨v, ws, e, ?_, ih h2⟩
    cases r with
    | v r => exact OV.dn hd h1
    | p i => exact h1
theorem ops_ok : ∀ {os : List Op} {P : Hp} {C : Av} {A : Nat → Option Addr} {ρ ρ' : Rho} {H : Hp} {rs : List OR} {Q : List V → Hp → Prop}, SR W P C Z A ρ σ H → opsM os ρ = some (rs, ρ') → (∀ vs H' C' A', Mv W P C Z A ρ' σ H H' C' A' → OVs W σ H H' C' A' rs vs → Q vs H') → tOs W os σ H Q
  | [], P, C, A, ρ, ρ', H, rs, Q, S, e, h => by
    simp only [opsM, Option.some.injEq, Prod.mk.injEq] at e
    obtain ⟨rfl, rfl⟩ := e
    exact h [] H C A (.refl S) rfl
  | .val f :: os, P, C, A, ρ, ρ', H, rs, Q, S, e, h => by
    unfold opsM at e
    cases hf : f ρ with
    | none => rw [hf] at e; cases e
    | some q =>
      obtain ⟨r, ρ1⟩ := q
      rw [hf] at e
      dsimp only at e
      cases ho : opsM os ρ1 with
      | none => rw [ho] at e; cases e
      | some q =>
        obtain ⟨rs', ρ2⟩ := q
        rw [ho] at e
        cases e
        refine ⟨P, C, Z, A, ρ, r, ρ1, S, hf, fun v H1 C1 A1 m1 o1 => ?_⟩
        refine ops_ok (os := os) m1.sr.pf ho fun vs H2 C2 A2 m2 o2 => ?_
        exact h _ H2 C2 A2 (m1.trans S m2) ⟨v, vs, rfl, OV.stay m1.sr m2 o1, o2.dn m1.dom⟩
  | .pk i :: os, P, C, A, ρ, ρ', H, rs, Q, S, e, h => by
    unfold opsM at e
    cases hf : rget ρ i with
    | none => rw [hf] at e; cases e
    | some q =>
      rw [hf] at e
      dsimp only at e
      cases ho : opsM os ρ with
      | none => rw [ho] at e; cases e
      | some q' =>
        obtain ⟨rs', ρ2⟩ := q'
        rw [ho] at e
        cases e
        obtain ⟨v, ev, _⟩ := S.slots i q.1 q.2 hf
        refine ⟨v, ev, ops_ok (os := os) S ho fun vs H2 C2 A2 m2 o2 => ?_⟩
        exact h _ H2 C2 A2 m2 ⟨v, vs, rfl, ev, o2⟩
def resolve (ρ : Rho) : OR → Option T
  | .v r => some r.1
  | .p i => (rget ρ i).map (·.1)
def resolves (ρ : Rho) : List OR → Option (List T)
  | [] => some []
  | r :: rs => match resolve ρ r with
    | none => none
    | some t => match resolves ρ rs with
      | none => none
      | some ts => some (t :: ts)
def RtL (W : Wd) (H : Hp) (av : Av) : List T → List V → Prop
  | [], vs => vs = []
  | t :: ts, vs => ∃ v ws, vs = v :: ws ∧ Rt W H av t v ∧ RtL W H av ts ws
theorem OV.rt {r : Res} {H0 : Hp} {C1 : Av} {A1 : Nat → Option Addr} (h : OV W H0 H1 C1 A1 r v) : Rt W H1 (av C1 A1) r.1 v := by
  unfold OV at h
  split at h
  · obtain ⟨p, rfl, _, _, c⟩ := h; exact c.rt
  · exact h.rt
theorem OVs.rt {H0 : Hp} {C1 : Av} {A1 : Nat → Option Addr} (S : SR W P C1 Z A1 ρ' σ H1) : ∀ {rs : List OR} {vs : List V} {ts : List T}, OVs W σ H0 H1 C1 A1 rs vs → resolves ρ' rs = some ts → RtL W H1 (av C1 A1) ts vs
  | [], vs, ts, h, e => by simp only [resolves, Option.some.injEq] at e; subst e; exact h
  | r :: rs, vs, ts, h, e => by
    obtain ⟨v, ws, rfl, h1, h2⟩ := h
    unfold resolves at e
    cases hr : resolve ρ' r with
    | none => rw [hr] at e; cases e
    | some t =>
      rw [hr] at e
      dsimp only at e
      cases hs : resolves ρ' rs with
      | none => rw [hs] at e; cases e
      | some ts' =>
        rw [hs] at e
        cases e
        refine ⟨v, ws, rfl, ?_, h2.rt S hs⟩
        cases r with
        | v r => cases hr; exact OV.rt h1
        | p i =>
          have hr : (rget ρ' i).map (·.1) = some t := hr
          cases hg : rget ρ' i with
          | none => rw [hg] at hr; cases hr
          | some q =>
            rw [hg] at hr
            cases hr
            obtain ⟨v', e1, r1⟩ := S.read hg
            have h1' : σ[i]? = some (some v) := h1
            rw [h1'] at e1
            cases e1
            exact r1
/-- behind a rule: the heap grown, the result fresh or of what was -/
structure RPost (W : Wd) (H : Hp) (av : Av) (H' : Hp) (r : Res) (v : V) : Prop where
  ext : ExtN H H'
  tabs : NdefX.TabsN W.tb H'
  fr : r.2 = false → Rp W H' av r.1 v
  ow : r.2 = true → ∃ p, v = .ref p ∧ Nw H p ∧ Cl W H' (Cadd av p) p r.1
def PrimOk (W : Wd) (r : List V → Hp → VK → Prop) (g : List T → Option Res) : Prop :=
  ∀ (av : Av) ts vs H Q res, RtL W H av ts vs → g ts = some res → NdefX.TabsN W.tb H → (∀ a, av a → ¬ Nw H a) → (∀ v H', RPost W H av H' res v → Q v H') → r vs H Q
theorem Mv.post {C1 : Av} {A1 : Nat → Option Addr} {H2 : Hp} {r : Res} (m : Mv W P C Z A ρ' σ H H1 C1 A1) (p : RPost W H1 (av C1 A1) H2 r v) : ∃ C2 A2, Mv W P C Z A ρ' σ H H2 C2 A2 ∧ OV W H H2 C2 A2 r v := by
  by_cases hb : r.2 = true
  · obtain ⟨q, e, n, c⟩ := p.ow hb
    refine ⟨Cadd C1 q, A1, ⟨m.subA, fun a z => .inl (m.up a z), fun a z => z.elim (m.dn a) fun z => .inr (Classical.byContradiction fun w => m.dom q (z ▸ w) n), fun a z => Nw.ext p.ext (m.dom a z), m.sr.addC n p.ext p.tabs ?_⟩, ?_⟩
    · obtain ⟨o, e, z⟩ := c.there
      exact fun w => by rw [w o e] at z; cases z
    · unfold OV
      rw [if_pos hb]
      exact ⟨q, e, Classical.byContradiction fun w => m.dom q w n, .inr rfl, c.move (fun _ z _ => z) fun l xs r => r.sub fun a z => z.elim (fun z => z.elim (fun z => .inl (.inl z)) .inr) fun z => .inl (.inr z)⟩
  · refine ⟨C1, A1, ⟨m.subA, m.up, m.dn, fun a z => Nw.ext p.ext (m.dom a z), m.sr.ext p.ext p.tabs⟩, ?_⟩
    unfold OV
    rw [if_neg hb]
    exact p.fr (by cases h : r.2 with | false => rfl | true => exact absurd h hb)
def primM (os : List Op) (g : List T → Option Res) : M := fun ρ => match opsM os ρ with
  | none => none
  | some (rs, ρ') => match resolves ρ' rs with
    | none => none
    | some ts => match g ts with
      | none => none
      | some r => some (r, ρ')
theorem prim_ok {r : List V → Hp → VK → Prop} {g : List T → Option Res} {os : List Op} {Q : VK} (hp : PrimOk W r g) (h : tOf W (primM os g) σ H Q) : tCB r (tOs W os) σ H Q := by
  obtain ⟨P, C, Z, A, ρ, rr, ρ', S, e, q⟩ := h
  unfold primM at e
  cases ho : opsM os ρ with
  | none => rw [ho] at e; cases e
  | some x =>
    obtain ⟨rs, ρ1⟩ := x
    rw [ho] at e
    dsimp only at e
    cases hs : resolves ρ1 rs with
    | none => rw [hs] at e; cases e
    | some ts =>
      rw [hs] at e
      dsimp only at e
      cases hg : g ts with
      | none => rw [hg] at e; cases e
      | some r1 =>
        rw [hg] at e
        cases e
        refine ops_ok S ho fun vs H1 C1 A1 m o => ?_
        refine hp (av C1 A1) ts vs H1 Q rr (o.rt m.sr hs) hg m.sr.tabs m.sr.avtr fun v H2 p => ?_
        obtain ⟨C2, A2, m2, o2⟩ := m.post p
        exact q v H2 C2 A2 m2 o2
end
end Rv
end

section
set_option Elab.async false
set_option autoImplicit false
set_option linter.all false
set_option maxRecDepth 100000
set_option maxHeartbeats 1000000
/-! Rv3: stores, tests, slots, loops and comprehensions by a function of the state. -/
namespace Rv
open PySem PySem.Spec L2
open PyProof.Rows hiding St
open Classical

section
variable {W : Wd} {P : Hp} {C C' : Av} {Z : Option Addr} {A A' : Nat → Option Addr} {ρ ρ' ρ1 : Rho} {σ : St} {H H' H1 : Hp} {t : T} {v : V} {o : Own} {i : Nat} {p : Addr}
/-! ### operands that are kept -/
def vals : List OR → Option (List T)
  | [] => some []
  | .v r :: rs => match vals rs with
    | none => none
    | some ts => some (r.1 :: ts)
  | .p _ :: _ => none
theorem OV.rp {r : Res} {H0 : Hp} {C0 C1 : Av} {A1 : Nat → Option Addr} (h : OV W H0 H1 C1 A1 r v) (up : ∀ a, C0 a → C1 a) (ctr : ∀ a, av C0 A1 a → ¬ Nw H0 a) : Rp W H1 (av C0 A1) r.1 v := by
  unfold OV at h
  split at h
  · obtain ⟨p, rfl, n, _, c⟩ := h
    refine Cl.rp (fun z => ctr p z n) (c.move (fun _ z _ => z) fun l xs r => r.sub fun a z => z.elim (fun z => .inl (up a z)) .inr)
  · exact h.sub fun a z => z.elim (fun z => .inl (up a z)) .inr
theorem OVs.rp {H0 : Hp} {C0 C1 : Av} {A1 : Nat → Option Addr} (up : ∀ a, C0 a → C1 a) (ctr : ∀ a, av C0 A1 a → ¬ Nw H0 a) : ∀ {rs : List OR} {vs : List V} {ts : List T}, OVs W σ H0 H1 C1 A1 rs vs → vals rs = some ts → RpL W H1 (av C0 A1) ts vs
  | [], vs, ts, h, e => by simp only [vals, Option.some.injEq] at e; subst e; have h' : vs = [] := h; subst h'; exact RpL.nil
  | .v r :: rs, vs, ts, h, e => by
    obtain ⟨v, ws, rfl, h1, h2⟩ := h
    unfold vals at e
    cases hs : vals rs with
    | none => rw [hs] at e; cases e
    | some ts' =>
      rw [hs] at e
      cases e
      exact RpL.cons (OV.rp h1 up ctr) (h2.rp up ctr hs)
  | .p i :: rs, vs, ts, h, e => by cases e
def StoreOk (W : Wd) (r : List V → Hp → VK → Prop) (g : List T → Option Res) : Prop :=
  ∀ (av : Av) ts vs H Q res, RpL W H av ts vs → g ts = some res → NdefX.TabsN W.tb H → (∀ a, av a → ¬ Nw H a) → (∀ v H', RPost W H av H' res v → Q v H') → r vs H Q
def storeM (os : List Op) (g : List T → Option Res) : M := fun ρ => match opsM os ρ with
  | none => none
  | some (rs, ρ') => match vals rs with
    | none => none
    | some ts => match g ts with
      | none => none
      | some r => some (r, ρ')
theorem Mv.drop (S : SR W P C Z A ρ σ H) (m : Mv W P C Z A ρ' σ H H1 C' A') : Mv W P C Z A ρ' σ H H1 C A' := ⟨m.subA, fun _ z => z, fun _ z => .inl z, m.dom, m.sr.subC m.up⟩
theorem Mv.ctr (S : SR W P C Z A ρ σ H) (m : Mv W P C Z A ρ' σ H H1 C' A') : ∀ a, av C A' a → ¬ Nw H a := fun a z => S.avtr a (z.elim .inl fun ⟨i, e⟩ => .inr ⟨i, m.subA i a e⟩)
theorem store_ok {r : List V → Hp → VK → Prop} {g : List T → Option Res} {os : List Op} {Q : VK} (hp : StoreOk W r g) (h : tOf W (storeM os g) σ H Q) : tCB r (tOs W os) σ H Q := by
  obtain ⟨P, C, Z, A, ρ, rr, ρ', S, e, q⟩ := h
  unfold storeM at e
  cases ho : opsM os ρ with
  | none => rw [ho] at e; cases e
  | some x =>
    obtain ⟨rs, ρ1⟩ := x
    rw [ho] at e
    dsimp only at e
    cases hs : vals rs with
    | none => rw [hs] at e; cases e
    | some ts =>
      rw [hs] at e
      dsimp only at e
      cases hg : g ts with
      | none => rw [hg] at e; cases e
      | some r1 =>
        rw [hg] at e
        cases e
        refine ops_ok S ho fun vs H1 C1 A1 m o => ?_
        have m0 := m.drop S
        refine hp (av C A1) ts vs H1 Q rr (o.rp m.up (m.ctr S) hs) hg m0.sr.tabs m0.sr.avtr fun v H2 p => ?_
        obtain ⟨C2, A2, m2, o2⟩ := m0.post p
        exact q v H2 C2 A2 m2 o2

/-! ### tests -/
def tOfT (W : Wd) (f : M) : TT := fun σ H Q => ∃ P C Z A ρ b ρ', SR W P C Z A ρ σ H ∧ f ρ = some ((T.bl b, false), ρ') ∧ ∀ H' C' A', Mv W P C Z A ρ' σ H H' C' A' → Q b H'
theorem of_test {f : M} {Q : Bool → Hp → Prop} (h : tOfT W f σ H Q) : tB (tOf W f) σ H Q := by
  obtain ⟨P, C, Z, A, ρ, b, ρ', S, e, q⟩ := h
  refine ⟨P, C, Z, A, ρ, _, ρ', S, e, fun v H' C' A' m o => ?_⟩
  have o' : Rp W H' (av C' A') (T.bl b) v := o
  simp only [Rp] at o'
  exact ⟨b, o', q H' C' A' m⟩
theorem bool_own {b : Bool} {r : Res} (m : Mv W P C Z A ρ' σ H H' C' A') (o : OV W H H' C' A' r v) (e : r.1 = T.bl b) : r.2 = false := by
  unfold OV at o
  split at o
  · obtain ⟨p, _, _, _, c⟩ := o
    rw [e] at c
    exact c.elim
  · rename_i h; cases hb : r.2 with | false => rfl | true => exact absurd hb h
/-- a test, then one of two -/
def iteM (c a b : M) : M := fun ρ => match c ρ with
  | some ((T.bl true, false), ρ1) => a ρ1
  | some ((T.bl false, false), ρ1) => b ρ1
  | _ => none
/-- go on behind a step: the outer one's end from the inner one's -/
theorem tOf_seq {f : M} {ρ2 : Rho} {r : Res} {Q : VK} {C1 : Av} {A1 : Nat → Option Addr} (S : SR W P C Z A ρ σ H) (m1 : Mv W P C Z A ρ1 σ H H1 C1 A1) (e : f ρ1 = some (r, ρ2)) (q : ∀ v H' C' A', Mv W P C Z A ρ2 σ H H' C' A' → OV W H H' C' A' r v → Q v H') : tOf W f σ H1 Q :=
  ⟨Pf H1 A1, C1, Z, A1, ρ1, r, ρ2, m1.sr.pf, e, fun v H2 C2 A2 m2 o2 => q v H2 C2 A2 (m1.trans S m2) (OV.dn m1.dom o2)⟩
theorem tOfT_seq {f : M} {ρ2 : Rho} {b : Bool} {Q : Bool → Hp → Prop} {C1 : Av} {A1 : Nat → Option Addr} (S : SR W P C Z A ρ σ H) (m1 : Mv W P C Z A ρ1 σ H H1 C1 A1) (e : f ρ1 = some ((T.bl b, false), ρ2)) (q : ∀ H' C' A', Mv W P C Z A ρ2 σ H H' C' A' → Q b H') : tOfT W f σ H1 Q :=
  ⟨Pf H1 A1, C1, Z, A1, ρ1, b, ρ2, m1.sr.pf, e, fun H2 C2 A2 m2 => q H2 C2 A2 (m1.trans S m2)⟩
theorem ite_ok {c a b : M} {Q : VK} (h : tOf W (iteM c a b) σ H Q) : tIf (tOfT W c) (tOf W a) (tOf W b) σ H Q := by
  obtain ⟨P, C, Z, A, ρ, r, ρ', S, e, q⟩ := h
  unfold iteM at e
  split at e
  · rename_i ρ1 hc
    refine ⟨P, C, Z, A, ρ, true, ρ1, S, hc, fun H1 C1 A1 m1 => ?_⟩
    exact iteT (tOf_seq S m1 e q)
  · rename_i ρ1 hc
    refine ⟨P, C, Z, A, ρ, false, ρ1, S, hc, fun H1 C1 A1 m1 => ?_⟩
    exact iteF (tOf_seq S m1 e q)
  · cases e
def andM (a b : M) : M := fun ρ => match a ρ with
  | some ((T.bl true, false), ρ1) => b ρ1
  | some ((T.bl false, false), ρ1) => some ((T.bl false, false), ρ1)
  | _ => none
def orM (a b : M) : M := fun ρ => match a ρ with
  | some ((T.bl false, false), ρ1) => b ρ1
  | some ((T.bl true, false), ρ1) => some ((T.bl true, false), ρ1)
  | _ => none
def notM (a : M) : M := fun ρ => match a ρ with
  | some ((T.bl b, false), ρ1) => some ((T.bl (!b), false), ρ1)
  | _ => none
theorem and_okT {a b : M} {Q : Bool → Hp → Prop} (h : tOfT W (andM a b) σ H Q) : tAnd (tOfT W a) (tOfT W b) σ H Q := by
  obtain ⟨P, C, Z, A, ρ, r, ρ', S, e, q⟩ := h
  unfold andM at e
  split at e
  · rename_i ρ1 hc
    refine ⟨P, C, Z, A, ρ, true, ρ1, S, hc, fun H1 C1 A1 m1 => ?_⟩
    exact iteT (tOfT_seq S m1 e q)
  · rename_i ρ1 hc
    cases e
    refine ⟨P, C, Z, A, ρ, false, _, S, hc, fun H1 C1 A1 m1 => ?_⟩
    exact iteF (q _ _ _ m1)
  · cases e
theorem or_okT {a b : M} {Q : Bool → Hp → Prop} (h : tOfT W (orM a b) σ H Q) : tOr (tOfT W a) (tOfT W b) σ H Q := by
  obtain ⟨P, C, Z, A, ρ, r, ρ', S, e, q⟩ := h
  unfold orM at e
  split at e
  · rename_i ρ1 hc
    refine ⟨P, C, Z, A, ρ, false, ρ1, S, hc, fun H1 C1 A1 m1 => ?_⟩
    exact iteF (tOfT_seq S m1 e q)
  · rename_i ρ1 hc
    cases e
    refine ⟨P, C, Z, A, ρ, true, _, S, hc, fun H1 C1 A1 m1 => ?_⟩
    exact iteT (q _ _ _ m1)
  · cases e
theorem not_okT {a : M} {Q : Bool → Hp → Prop} (h : tOfT W (notM a) σ H Q) : tNot (tOfT W a) σ H Q := by
  obtain ⟨P, C, Z, A, ρ, r, ρ', S, e, q⟩ := h
  unfold notM at e
  split at e
  · rename_i b ρ1 hc
    cases e
    exact ⟨P, C, Z, A, ρ, b, _, S, hc, fun H1 C1 A1 m1 => q _ _ _ m1⟩
  · cases e
theorem OV.bl {b : Bool} {r : Res} (e : r = (T.bl b, false)) : OV W H H' C' A' r (.bl b) := by
  subst e
  show Rp W H' (av C' A') (T.bl b) (.bl b)
  simp only [Rp]
theorem and_okE {a b : M} {Q : VK} (h : tOf W (andM a b) σ H Q) : tAndV (tOf W a) (tOf W b) σ H Q := by
  obtain ⟨P, C, Z, A, ρ, r, ρ', S, e, q⟩ := h
  unfold andM at e
  split at e
  · rename_i ρ1 hc
    refine ⟨P, C, Z, A, ρ, _, ρ1, S, hc, fun v H1 C1 A1 m1 o1 => ?_⟩
    have o' : Rp W H1 (av C1 A1) (T.bl true) v := o1
    simp only [Rp] at o'
    refine ⟨true, o', ?_⟩
    exact iteT (tOf_seq S m1 e q)
  · rename_i ρ1 hc
    cases e
    refine ⟨P, C, Z, A, ρ, _, _, S, hc, fun v H1 C1 A1 m1 o1 => ?_⟩
    have o' : Rp W H1 (av C1 A1) (T.bl false) v := o1
    simp only [Rp] at o'
    refine ⟨false, o', ?_⟩
    exact iteF (q _ _ _ _ m1 (.bl rfl))
  · cases e
theorem or_okE {a b : M} {Q : VK} (h : tOf W (orM a b) σ H Q) : tOrV (tOf W a) (tOf W b) σ H Q := by
  obtain ⟨P, C, Z, A, ρ, r, ρ', S, e, q⟩ := h
  unfold orM at e
  split at e
  · rename_i ρ1 hc
    refine ⟨P, C, Z, A, ρ, _, ρ1, S, hc, fun v H1 C1 A1 m1 o1 => ?_⟩
    have o' : Rp W H1 (av C1 A1) (T.bl false) v := o1
    simp only [Rp] at o'
    refine ⟨false, o', ?_⟩
    exact iteF (tOf_seq S m1 e q)
  · rename_i ρ1 hc
    cases e
    refine ⟨P, C, Z, A, ρ, _, _, S, hc, fun v H1 C1 A1 m1 o1 => ?_⟩
    have o' : Rp W H1 (av C1 A1) (T.bl true) v := o1
    simp only [Rp] at o'
    refine ⟨true, o', ?_⟩
    exact iteT (q _ _ _ _ m1 (.bl rfl))
  · cases e
theorem not_okE {a : M} {Q : VK} (h : tOf W (notM a) σ H Q) : tNotV (tOf W a) σ H Q := by
  obtain ⟨P, C, Z, A, ρ, r, ρ', S, e, q⟩ := h
  unfold notM at e
  split at e
  · rename_i b ρ1 hc
    cases e
    refine ⟨P, C, Z, A, ρ, _, _, S, hc, fun v H1 C1 A1 m1 o1 => ?_⟩
    have o' : Rp W H1 (av C1 A1) (T.bl b) v := o1
    simp only [Rp] at o'
    exact ⟨b, o', q _ _ _ _ m1 (.bl rfl)⟩
  · cases e

/-! ### a local read for good: from then on its object is nobody's own -/
def letgo (ρ : Rho) (i : Nat) : Option (T × Rho) := match rget ρ i with
  | some (t, .fr) => some (t, ρ)
  | some (t, .ow) => some (t, ρ.set i (some (t, .fr)))
  | _ => none
def varM (i : Nat) : M := fun ρ => match letgo ρ i with
  | some (t, ρ') => some ((t, false), ρ')
  | none => none
theorem rget_set {j : Nat} {x : Option (T × Own)} (h : i < ρ.length) : rget (ρ.set i x) j = if j = i then x else rget ρ j := by
  unfold rget
  by_cases e : j = i
  · subst e
    rw [if_pos rfl]
    simp [List.getD_eq_getElem?_getD, h]
  · rw [if_neg e]
    simp [List.getD_eq_getElem?_getD, List.getElem?_set_ne (Ne.symm e)]
theorem rget_lt (h : rget ρ i = some (t, o)) : i < ρ.length := by
  unfold rget at h
  by_cases hi : i < ρ.length
  · exact hi
  · rw [List.getD_eq_getElem?_getD, List.getElem?_eq_none (by omega)] at h
    cases h
def Aoff (A : Nat → Option Addr) (i : Nat) : Nat → Option Addr := fun j => if j = i then none else A j
theorem Aoff_some {j : Nat} (h : Aoff A i j = some p) : A j = some p ∧ j ≠ i := by
  unfold Aoff at h
  split at h
  · cases h
  · exact ⟨h, by assumption⟩
theorem av_off : ∀ a, av C (Aoff A i) a → av C A a := fun a z => z.elim .inl fun ⟨j, e⟩ => .inr ⟨j, (Aoff_some e).1⟩
/-- the owned local i is let go: its slot now says x (nothing, or the value as nobody's own) -/
theorem SR.off {x : Option (T × Own)} (S : SR W P C Z A ρ σ H) (hi : i < ρ.length) (hz : ∀ t, rget ρ i ≠ some (t, .io)) (hx : ∀ t o, x = some (t, o) → o = .fr ∧ rget ρ i = some (t, .ow)) : SR W P C Z (Aoff A i) (ρ.set i x) σ H where
  slots := fun j t o e => by
    rw [rget_set hi] at e
    split at e
    · rename_i hj
      subst hj
      obtain ⟨rfl, h2⟩ := hx t o e
      obtain ⟨v, e1, s⟩ := S.slots j t .ow h2
      obtain ⟨q, eq, rfl, c⟩ := s
      refine ⟨_, e1, by unfold Aoff; rw [if_pos rfl], ?_⟩
      refine Cl.rp (fun z => z.elim (S.dis j q eq) fun ⟨k, e⟩ => ?_) (c.move (fun _ z _ => z) fun l xs r => r.sub av_off)
      obtain ⟨h1, h2⟩ := Aoff_some e
      exact h2 (S.inj k j q h1 eq)
    · rename_i hj
      obtain ⟨v, e1, s⟩ := S.slots j t o e
      refine ⟨v, e1, ?_⟩
      unfold Aoff
      rw [if_neg hj]
      exact s.sub av_off
  sup := fun j q e => by
    obtain ⟨h1, h2⟩ := Aoff_some e
    obtain ⟨t, o, e', n⟩ := S.sup j q h1
    exact ⟨t, o, by rw [rget_set hi, if_neg h2]; exact e', n⟩
  inj := fun j k q e e' => S.inj j k q (Aoff_some e).1 (Aoff_some e').1
  dis := fun j q e => S.dis j q (Aoff_some e).1
  ctr := S.ctr
  keep := S.keep
  pnt := S.pnt
  prot := fun j q e => S.prot j q (Aoff_some e).1
  io := fun q e => by
    obtain ⟨h1, t, h2⟩ := S.io q e
    have hn : 0 ≠ i := fun z => hz t (z ▸ h2)
    exact ⟨by unfold Aoff; rw [if_neg hn]; exact h1, t, by rw [rget_set hi, if_neg hn]; exact h2⟩
  tabs := S.tabs
  len := by rw [List.length_set]; exact S.len
theorem var_ok {Q : VK} (h : tOf W (varM i) σ H Q) : tVar i σ H Q := by
  obtain ⟨P, C, Z, A, ρ, r, ρ', S, e, q⟩ := h
  unfold varM letgo at e
  cases hr : rget ρ i with
  | none => rw [hr] at e; cases e
  | some x =>
    obtain ⟨t, o⟩ := x
    rw [hr] at e
    obtain ⟨v, e1, s⟩ := S.slots i t o hr
    refine ⟨v, e1, ?_⟩
    cases o with
    | fr =>
      cases e
      exact q v H C A (.refl S) s.2
    | ow =>
      cases e
      obtain ⟨p, ep, rfl, c⟩ := s
      have S' := S.off (i := i) (x := some (t, .fr)) (rget_lt hr) (fun t' z => by rw [hr] at z; cases z) (fun t' o' z => by cases z; exact ⟨rfl, hr⟩)
      refine q _ H C (Aoff A i) ⟨fun j p e => (Aoff_some e).1, fun _ z => z, fun _ z => .inl z, fun _ z => z, S'⟩ ?_
      show Rp W H (av C (Aoff A i)) t (.ref p)
      obtain ⟨v', e2, s2⟩ := S'.slots i t .fr (by rw [rget_set (rget_lt hr), if_pos rfl])
      rw [e1] at e2
      cases e2
      exact s2.2
    | io => cases e

/-! ### slots set -/
/-- the slot i gets the value t: its object is the local's own, or nobody's -/
def setM (ρ : Rho) (i : Nat) (t : T) (b : Bool) : Option Rho := match rget ρ i with
  | some (_, .io) => none
  | _ => if i < ρ.length then some (ρ.set i (some (t, if b then .ow else .fr))) else none
def Aset (A : Nat → Option Addr) (i : Nat) (x : Option Addr) : Nat → Option Addr := fun j => if j = i then x else A j
theorem SR.wipe1 (S : SR W P C Z A ρ σ H) (hi : i < ρ.length) (hz : ∀ t, rget ρ i ≠ some (t, .io)) : SR W P C Z (Aoff A i) (ρ.set i none) σ H := S.off hi hz fun t o z => by cases z
theorem SR.store {t : T} {v : V} (S : SR W P C Z A (ρ.set i none) σ H) (hi : i < ρ.length) (hA : A i = none) (hz : Z ≠ none → i ≠ 0) (r : Rp W H (av C A) t v) : SR W P C Z A (ρ.set i (some (t, .fr))) (σ.set i (some v)) H where
  slots := fun j t' o e => by
    rw [rget_set hi] at e
    split at e
    · rename_i hj
      subst hj
      cases e
      refine ⟨v, ?_, hA, r⟩
      rw [List.getElem?_set_self]
      have := S.len
      rw [List.length_set] at this
      omega
    · rename_i hj
      obtain ⟨v', e1, s⟩ := S.slots j t' o (by rw [rget_set hi, if_neg hj]; exact e)
      exact ⟨v', by rw [List.getElem?_set_ne (Ne.symm hj)]; exact e1, s⟩
  sup := fun j q e => by
    obtain ⟨t', o, e', n⟩ := S.sup j q e
    rw [rget_set hi] at e'
    split at e'
    · cases e'
    · rename_i hj
      exact ⟨t', o, by rw [rget_set hi, if_neg hj]; exact e', n⟩
  inj := S.inj
  dis := S.dis
  ctr := S.ctr
  keep := S.keep
  pnt := S.pnt
  prot := S.prot
  io := fun q e => by
    obtain ⟨h1, t', h2⟩ := S.io q e
    have hn : 0 ≠ i := fun z => hz (by rw [e]; exact fun w => nomatch w) z.symm
    exact ⟨h1, t', by rw [rget_set hi, if_neg hn] at h2 ⊢; exact h2⟩
  tabs := S.tabs
  len := by have := S.len; simp only [List.length_set] at this ⊢; exact this
/-- .. an object that is the local's own from now on: so far it was to be avoided as one of the outer cells -/
theorem SR.storeOw {t : T} (S : SR W P C' Z A (ρ.set i none) σ H) (up : ∀ a, C a → C' a) (hi : i < ρ.length) (hA : A i = none) (hz : Z ≠ none → i ≠ 0) (hp : C' p) (hC : ¬ C p) (hP : P p = none) (c : Cl W H (av C' A) p t) :
    SR W P C Z (Aset A i (some p)) (ρ.set i (some (t, .ow))) (σ.set i (some (.ref p))) H := by
  have hav : ∀ a, av C (Aset A i (some p)) a → av C' A a := fun a z => z.elim (fun z => .inl (up a z)) fun ⟨j, e⟩ => by
    unfold Aset at e
    split at e
    · cases e; exact .inl hp
    · exact .inr ⟨j, e⟩
  exact {
    slots := fun j t' o e => by
      rw [rget_set hi] at e
      split at e
      · rename_i hj
        subst hj
        cases e
        refine ⟨.ref p, ?_, p, by unfold Aset; rw [if_pos rfl], rfl, c.move (fun _ z _ => z) fun l xs r => r.sub hav⟩
        rw [List.getElem?_set_self]
        have := S.len
        rw [List.length_set] at this
        omega
      · rename_i hj
        obtain ⟨v', e1, s⟩ := S.slots j t' o (by rw [rget_set hi, if_neg hj]; exact e)
        refine ⟨v', by rw [List.getElem?_set_ne (Ne.symm hj)]; exact e1, ?_⟩
        unfold Aset
        rw [if_neg hj]
        exact s.sub hav
    sup := fun j q e => by
      unfold Aset at e
      split at e
      · rename_i hj
        subst hj
        exact ⟨t, .ow, by rw [rget_set hi, if_pos rfl], fun z => nomatch z⟩
      · rename_i hj
        obtain ⟨t', o, e', n⟩ := S.sup j q e
        rw [rget_set hi, if_neg hj] at e'
        exact ⟨t', o, by rw [rget_set hi, if_neg hj]; exact e', n⟩
    inj := fun j k q e e' => by
      unfold Aset at e e'
      split at e <;> split at e'
      · omega
      · cases e; exact absurd hp (S.dis k p e')
      · cases e'; exact absurd hp (S.dis j p e)
      · exact S.inj j k q e e'
    dis := fun j q e z => by
      unfold Aset at e
      split at e
      · cases e; exact hC z
      · exact S.dis j q e (up q z)
    ctr := fun a z => S.ctr a (up a z)
    keep := S.keep
    pnt := S.pnt
    prot := fun j q e => by
      unfold Aset at e
      split at e
      · cases e; exact hP
      · exact S.prot j q e
    io := fun q e => by
      obtain ⟨h1, t', h2⟩ := S.io q e
      have hn : 0 ≠ i := fun z => hz (by rw [e]; exact fun w => nomatch w) z.symm
      refine ⟨by unfold Aset; rw [if_neg hn]; exact h1, t', by rw [rget_set hi, if_neg hn] at h2 ⊢; exact h2⟩
    tabs := S.tabs
    len := by have := S.len; simp only [List.length_set] at this ⊢; exact this }
end
end Rv
end

section
set_option Elab.async false
set_option autoImplicit false
set_option linter.all false
set_option maxRecDepth 100000
set_option maxHeartbeats 1000000
/-! Rv4: targets, statements, loops by a function of the state. -/
namespace Rv
open PySem PySem.Spec L2
open PyProof.Rows hiding St
open Classical

section
variable {W : Wd} {P : Hp} {C C' : Av} {Z : Option Addr} {A A' : Nat → Option Addr} {ρ ρ' ρ1 ρ2 : Rho} {σ : St} {H H' H1 : Hp} {t : T} {v : V} {o : Own} {i : Nat} {p : Addr}
theorem SR.io0 (S : SR W P C Z A ρ σ H) (hz : ∀ t, rget ρ i ≠ some (t, .io)) : Z ≠ none → i ≠ 0 := fun z e => by
  cases q : Z with
  | none => exact z q
  | some a =>
    obtain ⟨_, t, h⟩ := S.io a q
    exact hz t (e ▸ h)
theorem setM_inv {b : Bool} (h : setM ρ i t b = some ρ2) : i < ρ.length ∧ (∀ t, rget ρ i ≠ some (t, .io)) ∧ ρ2 = ρ.set i (some (t, if b then .ow else .fr)) := by
  unfold setM at h
  split at h
  · cases h
  · rename_i hn
    split at h
    · rename_i hi
      cases h
      exact ⟨hi, fun t' z => hn t' z, rfl⟩
    · cases h
/-- a local gets a value that is nobody's own -/
theorem SR.setFr (S : SR W P C Z A ρ σ H) (h : setM ρ i t false = some ρ2) (r : Rp W H (av C A) t v) : SR W P C Z (Aoff A i) ρ2 (σ.set i (some v)) H := by
  obtain ⟨hi, hz, rfl⟩ := setM_inv h
  have S1 := S.wipe1 hi hz
  exact S1.store hi (by unfold Aoff; rw [if_pos rfl]) (S.io0 hz) (r.sub av_off)
theorem SR.setOw (S : SR W P C' Z A ρ σ H) (up : ∀ a, C a → C' a) (h : setM ρ i t true = some ρ2) (hp : C' p) (hC : ¬ C p) (hP : P p = none) (c : Cl W H (av C' A) p t) : ∃ A2, SR W P C Z A2 ρ2 (σ.set i (some (.ref p))) H := by
  obtain ⟨hi, hz, rfl⟩ := setM_inv h
  have S1 := S.wipe1 hi hz
  exact ⟨_, S1.storeOw up hi (by unfold Aoff; rw [if_pos rfl]) (S.io0 hz) hp hC hP (c.move (fun _ z _ => z) fun l xs r => r.sub av_off)⟩
/-- a local gets a result -/
theorem assign_ok {r : Res} {C1 : Av} {A1 : Nat → Option Addr} (S : SR W P C Z A ρ σ H) (m : Mv W P C Z A ρ1 σ H H1 C1 A1) (o : OV W H H1 C1 A1 r v) (h : setM ρ1 i r.1 r.2 = some ρ2) : ∃ A2, SR W P C Z A2 ρ2 (σ.set i (some v)) H1 := by
  unfold OV at o
  split at o
  · rename_i hb
    obtain ⟨p, rfl, n, c, cl⟩ := o
    rw [hb] at h
    refine m.sr.setOw m.up h c (fun z => S.ctr p z n) ?_ cl
    cases q : P p with
    | none => rfl
    | some u => have := n u (S.keep p u q); rw [S.pnt p u q] at this; cases this
  · rename_i hb
    have hb' : r.2 = false := by cases e : r.2 with | false => rfl | true => exact absurd e hb
    rw [hb'] at h
    exact ⟨_, (m.sr.subC m.up).setFr h (o.sub (av_sub m.up))⟩

/-! ### targets -/
inductive Tg where
  | nm (i : Nat) | tp (l : List Nat)
def setAll : List Nat → List T → Rho → Option Rho
  | [], [], ρ => some ρ
  | i :: is, t :: ts, ρ => match setM ρ i t false with
    | none => none
    | some ρ' => setAll is ts ρ'
  | _, _, _ => none
def tgM : Tg → T → Rho → Option Rho
  | .nm i, t, ρ => setM ρ i t false
  | .tp is, .tup _ ts, ρ => setAll is ts ρ
  | _, _, _ => none
def Tg.slots : Tg → List Nat
  | .nm i => [i]
  | .tp is => is
def gOf (W : Wd) (tg : Tg) : TG := fun v σ H K => ∃ P C Z A ρ t ρ', SR W P C Z A ρ σ H ∧ Rp W H (av C A) t v ∧ tgM tg t ρ = some ρ' ∧
  ∀ σ' A', SR W P C Z A' ρ' σ' H → (∀ i p, A' i = some p → A i = some p) → (∀ vs : List Nat, (∀ i ∈ tg.slots, i ∈ vs) → wipe σ' vs = wipe σ vs) → K σ' H
theorem wipe_set {σ : St} {i : Nat} {x : Option V} : ∀ {vs : List Nat}, i ∈ vs → wipe (σ.set i x) vs = wipe σ vs
  | v :: vs, h => by
    by_cases hi : i ∈ vs
    · unfold wipe; rw [wipe_set hi]
    · have e : i = v := by
        rcases List.mem_cons.mp h with e | e
        · exact e
        · exact absurd e hi
      subst e
      clear h
      unfold wipe
      have : ∀ (ws : List Nat), i ∉ ws → wipe (σ.set i x) ws = (wipe σ ws).set i x := by
        intro ws
        induction ws with
        | nil => intro _; rfl
        | cons w ws ih =>
          intro hn
          unfold wipe
          rw [ih (fun z => hn (List.mem_cons_of_mem _ z)), List.set_comm _ _ (by intro z; subst z; exact hn List.mem_cons_self)]
      rw [this vs hi, List.set_set]
theorem g_name {K : St → Hp → Prop} (h : gOf W (.nm i) v σ H K) : gName i v σ H K := by
  obtain ⟨P, C, Z, A, ρ, t, ρ', S, r, e, q⟩ := h
  exact q _ _ (S.setFr e r) (fun j p e => (Aoff_some e).1) fun vs hv => wipe_set (hv i (by simp [Tg.slots]))
/-- several names -/
def gNames : List Nat → TGs
  | [] => gNil
  | i :: is => gCons (gName i) (gNames is)
theorem g_names {K : St → Hp → Prop} : ∀ {is : List Nat} {ts : List T} {vs : List V} {A : Nat → Option Addr} {ρ ρ' : Rho} {σ : St}, SR W P C Z A ρ σ H → RpL W H (av C A) ts vs → setAll is ts ρ = some ρ' →
    (∀ σ' A', SR W P C Z A' ρ' σ' H → (∀ i p, A' i = some p → A i = some p) → (∀ ws : List Nat, (∀ i ∈ is, i ∈ ws) → wipe σ' ws = wipe σ ws) → K σ' H) → gNames is vs σ H K
  | [], [], vs, A, ρ, ρ', σ, S, r, e, q => by
    simp only [setAll, Option.some.injEq] at e
    subst e
    simp only [RpL] at r
    subst r
    exact ⟨rfl, q σ A S (fun _ _ z => z) fun _ _ => rfl⟩
  | i :: is, t :: ts, vs, A, ρ, ρ', σ, S, r, e, q => by
    simp only [RpL] at r
    obtain ⟨y, ys, rfl, r1, r2⟩ := r
    unfold setAll at e
    cases hs : setM ρ i t false with
    | none => rw [hs] at e; cases e
    | some ρ1 =>
      rw [hs] at e
      have S1 := S.setFr hs r1
      refine ⟨y, ys, rfl, g_names S1 (r2.sub av_off) e fun σ' A' S' sb hw => ?_⟩
      refine q σ' A' S' (fun i p e => (Aoff_some (sb i p e)).1) fun ws hws => ?_
      rw [hw ws fun j hj => hws j (List.mem_cons_of_mem _ hj)]
      exact wipe_set (hws i List.mem_cons_self)
  | [], _ :: _, _, _, _, _, _, _, _, e, _ => by cases e
  | _ :: _, [], _, _, _, _, _, _, _, e, _ => by cases e
theorem setAll_len : ∀ {is : List Nat} {ts : List T} {ρ ρ' : Rho}, setAll is ts ρ = some ρ' → ts.length = is.length
  | [], [], _, _, _ => rfl
  | i :: is, t :: ts, ρ, ρ', e => by
    unfold setAll at e
    cases hs : setM ρ i t false with
    | none => rw [hs] at e; cases e
    | some ρ1 => rw [hs] at e; simp [setAll_len e]
  | [], _ :: _, _, _, e => by cases e
  | _ :: _, [], _, _, e => by cases e
theorem g_tup {is : List Nat} {K : St → Hp → Prop} (h : gOf W (.tp is) v σ H K) : gTup W.K is.length (gNames is) v σ H K := by
  obtain ⟨P, C, Z, A, ρ, t, ρ', S, r, e, q⟩ := h
  cases t with
  | tup kk ts =>
    simp only [Rp] at r
    obtain ⟨a, xs, rfl, s, rl⟩ := r
    refine ⟨a, xs, rfl, s.sq, by rw [rl.length, setAll_len e], g_names S rl e fun σ' A' S' sb hw => q σ' A' S' sb hw⟩
  | _ => cases e

/-! ### what is walked -/
abbrev SrcM := Rho → Option (List T × Rho)
structure ItOk (W : Wd) (P : Hp) (av : Av) (J : It) (ts : List T) : Prop where
  go : ∀ i t H, ts[i]? = some t → (∀ a o, P a = some o → H a = some o) → J.go i H
  yld : ∀ i t H x H', ts[i]? = some t → (∀ a o, P a = some o → H a = some o) → NdefX.TabsN W.tb H → J.yld i H x H' → ExtN H H' ∧ NdefX.TabsN W.tb H' ∧ ∀ av' : Av, (∀ a, av' a → ¬ Nw H a ∧ (av a ∨ P a = none)) → Rp W H' av' t x
  stop : ∀ H, (∀ a o, P a = some o → H a = some o) → J.stop ts.length H
/-- kept: all but owned cells, tables and the cells of C -/
noncomputable def Pc (H : Hp) (A : Nat → Option Addr) (C : Av) : Hp := fun a => if C a then none else Pf H A a
theorem Pc_le {a : Addr} {u : HO} (h : Pc H A C a = some u) : Pf H A a = some u ∧ ¬ C a := by
  unfold Pc at h
  split at h
  · cases h
  · exact ⟨h, by assumption⟩
theorem ItOk.le {P P' : Hp} {av : Av} {J : It} {ts : List T} (it : ItOk W P av J ts) (h : ∀ a o, P a = some o → P' a = some o) : ItOk W P' av J ts where
  go := fun i t H e k => it.go i t H e fun a o z => k a o (h a o z)
  yld := fun i t H x H' e k tb y => by
    obtain ⟨h1, h2, h3⟩ := it.yld i t H x H' e (fun a o z => k a o (h a o z)) tb y
    refine ⟨h1, h2, fun av' z => h3 av' fun a w => ⟨(z a w).1, (z a w).2.elim .inl fun q => .inr ?_⟩⟩
    cases q' : P a with
    | none => rfl
    | some o => rw [h a o q'] at q; cases q
  stop := fun H k => it.stop H fun a o z => k a o (h a o z)
def tI (W : Wd) (f : SrcM) : TI := fun σ H R => ∃ P C Z A ρ ts ρ', SR W P C Z A ρ σ H ∧ f ρ = some (ts, ρ') ∧ ∀ J H1 C1 A1, Mv W P C Z A ρ' σ H H1 C1 A1 → ItOk W (Pc H1 A1 C) (av C1 A1) J ts → R J H1

/-! ### statements -/
inductive Out where
  | nx | bk | ct | rt (r : Res)
abbrev SM := Rho → Option (Out × Rho)
def RVl (W : Wd) (P : Hp) (C' : Av) (A' : Nat → Option Addr) (H' : Hp) (r : Res) (v : V) : Prop :=
  if r.2 = true then ∃ p, v = .ref p ∧ P p = none ∧ C' p ∧ Cl W H' (av C' A') p r.1 else Rp W H' (av C' A') r.1 v
def SEnd (W : Wd) (P : Hp) (C : Av) (Z : Option Addr) (ρ' : Rho) (D : Ends) : Out → Prop
  | .nx => ∀ σ' H' A', SR W P C Z A' ρ' σ' H' → D.nx σ' H'
  | .bk => ∀ σ' H' A', SR W P C Z A' ρ' σ' H' → D.bk σ' H'
  | .ct => ∀ σ' H' A', SR W P C Z A' ρ' σ' H' → D.ct σ' H'
  | .rt r => ∀ v σ' H' C' A', (∀ a, C a → C' a) → SR W P C' Z A' ρ' σ' H' → RVl W P C' A' H' r v → D.rt v H'
def tSf (W : Wd) (f : SM) : TS := fun D σ H => ∃ P C Z A ρ out ρ', SR W P C Z A ρ σ H ∧ f ρ = some (out, ρ') ∧ SEnd W P C Z ρ' D out
theorem SEnd.mono {P' : Hp} {D D' : Ends} {out : Out} {C0 : Av} (le : ∀ a o, P a = some o → P' a = some o) (up : ∀ a, C0 a → C a) (h : SEnd W P C0 Z ρ' D out)
    (hnx : ∀ σ H, D.nx σ H → D'.nx σ H) (hbk : ∀ σ H, D.bk σ H → D'.bk σ H) (hct : ∀ σ H, D.ct σ H → D'.ct σ H) (hrt : ∀ v H, D.rt v H → D'.rt v H) : SEnd W P' C Z ρ' D' out := by
  cases out with
  | nx => exact fun σ' H' A' S => hnx _ _ (h σ' H' A' ((S.less le).subC up))
  | bk => exact fun σ' H' A' S => hbk _ _ (h σ' H' A' ((S.less le).subC up))
  | ct => exact fun σ' H' A' S => hct _ _ (h σ' H' A' ((S.less le).subC up))
  | rt r =>
    intro v σ' H' C' A' up' S rv
    refine hrt _ _ (h v σ' H' C' A' (fun a z => up' a (up a z)) (S.less le) ?_)
    unfold RVl at rv ⊢
    split at rv
    · rename_i hb
      rw [if_pos hb]
      obtain ⟨p, e, n, c⟩ := rv
      refine ⟨p, e, ?_, c⟩
      cases q : P p with
      | none => rfl
      | some o => rw [le p o q] at n; cases n
    · rename_i hb
      rw [if_neg hb]
      exact rv
def seqM (f g : SM) : SM := fun ρ => match f ρ with
  | some (.nx, ρ1) => g ρ1
  | x => x
theorem seq_ok {f g : SM} {D : Ends} (h : tSf W (seqM f g) D σ H) : tSeq (tSf W f) (tSf W g) D σ H := by
  obtain ⟨P, C, Z, A, ρ, out, ρ', S, e, q⟩ := h
  unfold seqM at e
  split at e
  · rename_i ρ1 hf
    exact ⟨P, C, Z, A, ρ, .nx, ρ1, S, hf, fun σ' H' A' S' => ⟨P, C, Z, A', ρ1, out, ρ', S', e, q⟩⟩
  · rename_i x hn
    refine ⟨P, C, Z, A, ρ, out, ρ', S, e, ?_⟩
    cases out with
    | nx => exact absurd e (fun z => hn _ z)
    | bk => exact q
    | ct => exact q
    | rt r => exact q
def nopM : SM := fun ρ => some (.nx, ρ)
theorem nop_ok {D : Ends} (h : tSf W nopM D σ H) : tNext D σ H := by
  obtain ⟨P, C, Z, A, ρ, out, ρ', S, e, q⟩ := h
  cases e
  exact q σ H A S
def brkM : SM := fun ρ => some (.bk, ρ)
theorem brk_ok {D : Ends} (h : tSf W brkM D σ H) : tBreak D σ H := by
  obtain ⟨P, C, Z, A, ρ, out, ρ', S, e, q⟩ := h
  cases e
  exact q σ H A S
def cntM : SM := fun ρ => some (.ct, ρ)
theorem cnt_ok {D : Ends} (h : tSf W cntM D σ H) : tCont D σ H := by
  obtain ⟨P, C, Z, A, ρ, out, ρ', S, e, q⟩ := h
  cases e
  exact q σ H A S
def ifM (c : M) (f g : SM) : SM := fun ρ => match c ρ with
  | some ((T.bl true, false), ρ1) => f ρ1
  | some ((T.bl false, false), ρ1) => g ρ1
  | _ => none
theorem if_ok {c : M} {f g : SM} {D : Ends} (h : tSf W (ifM c f g) D σ H) : tIfS (tOfT W c) (tSf W f) (tSf W g) D σ H := by
  obtain ⟨P, C, Z, A, ρ, out, ρ', S, e, q⟩ := h
  unfold ifM at e
  split at e
  · rename_i ρ1 hc
    exact ⟨P, C, Z, A, ρ, true, ρ1, S, hc, fun H1 C1 A1 m => iteT ⟨P, C, Z, A1, ρ1, out, ρ', m.sr.subC m.up, e, q⟩⟩
  · rename_i ρ1 hc
    exact ⟨P, C, Z, A, ρ, false, ρ1, S, hc, fun H1 C1 A1 m => iteF ⟨P, C, Z, A1, ρ1, out, ρ', m.sr.subC m.up, e, q⟩⟩
  · cases e
def dropM (f : M) : SM := fun ρ => match f ρ with
  | some (_, ρ1) => some (.nx, ρ1)
  | none => none
theorem drop_ok {f : M} {D : Ends} (h : tSf W (dropM f) D σ H) : tDrop (tOf W f) D σ H := by
  obtain ⟨P, C, Z, A, ρ, out, ρ', S, e, q⟩ := h
  unfold dropM at e
  split at e
  · rename_i r ρ1 hf
    cases e
    exact ⟨P, C, Z, A, ρ, r, _, S, hf, fun v H1 C1 A1 m o => q σ H1 A1 (m.sr.subC m.up)⟩
  · cases e
theorem SR.pnone (S : SR W P C Z A ρ σ H) (n : Nw H p) : P p = none := by
  cases q : P p with
  | none => rfl
  | some u => have := n u (S.keep p u q); rw [S.pnt p u q] at this; cases this
def retM (f : M) : SM := fun ρ => match f ρ with
  | some (r, ρ1) => some (.rt r, ρ1)
  | none => none
theorem ret_ok {f : M} {D : Ends} (h : tSf W (retM f) D σ H) : tRet (tOf W f) D σ H := by
  obtain ⟨P, C, Z, A, ρ, out, ρ', S, e, q⟩ := h
  unfold retM at e
  split at e
  · rename_i r ρ1 hf
    cases e
    refine ⟨P, C, Z, A, ρ, r, _, S, hf, fun v H1 C1 A1 m o => q v σ H1 C1 A1 m.up m.sr ?_⟩
    unfold OV at o
    unfold RVl
    split at o
    · rename_i hb
      rw [if_pos hb]
      obtain ⟨p, e, n, c, cl⟩ := o
      exact ⟨p, e, S.pnone n, c, cl⟩
    · rename_i hb
      rw [if_neg hb]
      exact o
  · cases e
def retNM : SM := fun ρ => some (.rt (.non, false), ρ)
theorem retN_ok {D : Ends} (h : tSf W retNM D σ H) : tRetN D σ H := by
  obtain ⟨P, C, Z, A, ρ, out, ρ', S, e, q⟩ := h
  cases e
  refine q .non σ H C A (fun _ z => z) S ?_
  show Rp W H (av C A) T.non .non
  simp only [Rp]
/-- return of an owned local, as one's own -/
def retVM (i : Nat) : SM := fun ρ => match rget ρ i with
  | some (t, .ow) => some (.rt (t, true), ρ.set i none)
  | some (t, .fr) => some (.rt (t, false), ρ)
  | _ => none
theorem retV_ok {D : Ends} (h : tSf W (retVM i) D σ H) : tRet (tVar i) D σ H := by
  obtain ⟨P, C, Z, A, ρ, out, ρ', S, e, q⟩ := h
  unfold retVM at e
  split at e
  · rename_i t hr
    cases e
    obtain ⟨v, e1, s⟩ := S.slots i t .ow hr
    obtain ⟨p, ep, rfl, c⟩ := s
    refine ⟨.ref p, e1, ?_⟩
    have S1 := S.wipe1 (rget_lt hr) (fun t' z => by rw [hr] at z; cases z)
    have hC : ∀ a, av (Cadd C p) (Aoff A i) a → av C A a := fun a z => z.elim (fun z => z.elim .inl fun z => .inr ⟨i, z ▸ ep⟩) fun ⟨j, e⟩ => .inr ⟨j, (Aoff_some e).1⟩
    have S2 : SR W P (Cadd C p) Z (Aoff A i) (ρ.set i none) σ H := {
      slots := fun j t' o' e => by
        rw [rget_set (rget_lt hr)] at e
        split at e
        · cases e
        · rename_i hj
          obtain ⟨v', e1, s⟩ := S.slots j t' o' e
          refine ⟨v', e1, ?_⟩
          unfold Aoff
          rw [if_neg hj]
          exact s.sub hC
      sup := S1.sup
      inj := S1.inj
      dis := fun j q' e z => z.elim (S1.dis j q' e) fun z => (Aoff_some e).2 (S.inj j i p (z ▸ (Aoff_some e).1) ep)
      ctr := fun a z => z.elim (S.ctr a) fun z => z ▸ S.atr ep
      keep := S.keep
      pnt := S.pnt
      prot := S1.prot
      io := S1.io
      tabs := S.tabs
      len := S1.len }
    refine q _ σ H (Cadd C p) (Aoff A i) (fun _ z => .inl z) S2 ?_
    unfold RVl
    rw [if_pos rfl]
    exact ⟨p, rfl, S.prot i p ep, .inr rfl, c.move (fun _ z _ => z) fun l xs r => r.sub hC⟩
  · rename_i t hr
    cases e
    obtain ⟨v, e1, s⟩ := S.slots i t .fr hr
    exact ⟨v, e1, q v σ H C A (fun _ z => z) S s.2⟩
  · cases e
def asgM (i : Nat) (f : M) : SM := fun ρ => match f ρ with
  | some (r, ρ1) => match setM ρ1 i r.1 r.2 with
    | some ρ2 => some (.nx, ρ2)
    | none => none
  | none => none
theorem asg_ok {f : M} {D : Ends} (h : tSf W (asgM i f) D σ H) : tAsg (tOf W f) (gName i) D σ H := by
  obtain ⟨P, C, Z, A, ρ, out, ρ', S, e, q⟩ := h
  unfold asgM at e
  split at e
  · rename_i r ρ1 hf
    split at e
    · rename_i ρ2 hs
      cases e
      refine ⟨P, C, Z, A, ρ, r, _, S, hf, fun v H1 C1 A1 m o => ?_⟩
      obtain ⟨A2, S2⟩ := assign_ok S m o hs
      exact q _ _ A2 S2
    · cases e
  · cases e
/-- a tuple to several names -/
def asgTM (is : List Nat) (f : M) : SM := fun ρ => match f ρ with
  | some ((.tup _ ts, false), ρ1) => match setAll is ts ρ1 with
    | some ρ2 => some (.nx, ρ2)
    | none => none
  | _ => none
theorem asgT_ok {is : List Nat} {f : M} {D : Ends} (h : tSf W (asgTM is f) D σ H) : tAsg (tOf W f) (gTup W.K is.length (gNames is)) D σ H := by
  obtain ⟨P, C, Z, A, ρ, out, ρ', S, e, q⟩ := h
  unfold asgTM at e
  split at e
  · rename_i kk ts ρ1 hf
    split at e
    · rename_i ρ2 hs
      cases e
      refine ⟨P, C, Z, A, ρ, _, _, S, hf, fun v H1 C1 A1 m o => ?_⟩
      exact g_tup ⟨P, C, Z, A1, ρ1, .tup kk ts, _, m.sr.subC m.up, (show Rp W H1 (av C1 A1) (T.tup kk ts) v from o).sub (av_sub m.up), hs, fun σ' A' S' _ _ => q σ' H1 A' S'⟩
    · cases e
  · cases e

/-! ### for -/
def forLoop (tg : Tg) (body : SM) : List T → Rho → Option (Out × Rho)
  | [], ρ => some (.nx, ρ)
  | t :: ts, ρ => match tgM tg t ρ with
    | none => none
    | some ρ1 => match body ρ1 with
      | some (.nx, ρ2) => forLoop tg body ts ρ2
      | some (.ct, ρ2) => forLoop tg body ts ρ2
      | some (.bk, ρ2) => some (.nx, ρ2)
      | some (.rt r, ρ2) => some (.rt r, ρ2)
      | none => none
def forM (src : SrcM) (tg : Tg) (body : SM) : SM := fun ρ => match src ρ with
  | some (ts, ρ1) => forLoop tg body ts ρ1
  | none => none
theorem for_ok {src : SrcM} {tg : Tg} {g : TG} {body : SM} {D : Ends} (hg : ∀ v σ H K, gOf W tg v σ H K → g v σ H K) (h : tSf W (forM src tg body) D σ H) : tFor (tI W src) g (tSf W body) D σ H := by
  obtain ⟨P, C, Z, A, ρ, out, ρ', S, e, q⟩ := h
  unfold forM at e
  split at e
  · rename_i ts ρ1 hs
    refine ⟨P, C, Z, A, ρ, ts, ρ1, S, hs, fun J H1 C1 A1 m it => ?_⟩
    have it := it.le (P' := Pf H1 A1) fun a o z => (Pc_le z).1
    have q1 : SEnd W (Pf H1 A1) C1 Z ρ' D out := q.mono m.sr.le m.up (fun _ _ z => z) (fun _ _ z => z) (fun _ _ z => z) fun _ _ z => z
    refine ⟨fun i n σ H => n = ts.length - i ∧ i ≤ ts.length ∧ ∃ Ai ρi, SR W (Pf H1 A1) C1 Z Ai ρi σ H ∧ forLoop tg body (ts.drop i) ρi = some (out, ρ'), ⟨ts.length, by simp, Nat.zero_le _, A1, ρ1, m.sr.pf, by simpa using e⟩, ?_⟩
    rintro i n σi Hi ⟨rfl, hi, Ai, ρi, Si, ei⟩
    by_cases hlt : i < ts.length
    · have hd : ts.drop i = ts[i] :: ts.drop (i + 1) := List.drop_eq_getElem_cons hlt
      rw [hd] at ei
      unfold forLoop at ei
      have hti : ts[i]? = some ts[i] := List.getElem?_eq_getElem hlt
      cases ht : tgM tg ts[i] ρi with
      | none => rw [ht] at ei; cases ei
      | some ρa =>
        rw [ht] at ei
        dsimp only at ei
        cases hb : body ρa with
        | none => rw [hb] at ei; cases ei
        | some x =>
          obtain ⟨o1, ρb⟩ := x
          rw [hb] at ei
          refine .inr ⟨it.go i _ Hi hti Si.keep, fun σ' H' => ∃ A', SR W (Pf H1 A1) C1 Z A' ρb σ' H' ∧ forLoop tg body (ts.drop (i + 1)) ρb = some (out, ρ'), ?_, ?_⟩
          · rintro σ' H' ⟨A', S', e'⟩
            exact ⟨ts.length - (i + 1), by omega, rfl, by omega, A', ρb, S', e'⟩
          · intro x H' y
            obtain ⟨k, tb, rr⟩ := it.yld i _ Hi x H' hti Si.keep Si.tabs y
            have S' := Si.ext k tb
            refine hg _ _ _ _ ⟨Pf H1 A1, C1, Z, Ai, ρi, ts[i], ρa, S', rr _ (fun a z => ?_), ht, fun σ2 A2 S2 _ _ => ⟨Pf H1 A1, C1, Z, A2, ρa, o1, ρb, S2, hb, ?_⟩⟩
            · rcases z with z | ⟨j, z⟩
              · exact ⟨Si.ctr a z, .inl (.inl z)⟩
              · exact ⟨Si.atr z, .inr (Si.prot j a z)⟩
            · cases o1 with
              | nx => exact fun σ' H' A' S' => ⟨A', S', ei⟩
              | ct => exact fun σ' H' A' S' => ⟨A', S', ei⟩
              | bk => cases ei; exact fun σ' H' A' S' => q1 σ' H' A' S'
              | rt r => cases ei; exact fun v σ' H' C' A' up S' rv => q1 v σ' H' C' A' up S' rv
    · have ee : i = ts.length := by omega
      subst ee
      rw [List.drop_length] at ei
      cases ei
      exact .inl ⟨it.stop Hi Si.keep, q1 σi Hi Ai Si⟩
  · cases e

/-! ### while -/
def whileLoop (c : M) (body : SM) : Nat → Rho → Option (Out × Rho)
  | 0, _ => none
  | n + 1, ρ => match c ρ with
    | some ((T.bl true, false), ρ1) => match body ρ1 with
      | some (.nx, ρ2) => whileLoop c body n ρ2
      | some (.ct, ρ2) => whileLoop c body n ρ2
      | some (.bk, ρ2) => some (.nx, ρ2)
      | some (.rt r, ρ2) => some (.rt r, ρ2)
      | none => none
    | some ((T.bl false, false), ρ1) => some (.nx, ρ1)
    | _ => none
theorem while_ok {c : M} {body : SM} {n : Nat} {D : Ends} (h : tSf W (whileLoop c body n) D σ H) : tWhile (tOfT W c) (tSf W body) D σ H := by
  obtain ⟨P, C, Z, A, ρ, out, ρ', S, e, q⟩ := h
  refine ⟨fun m σ H => ∃ Ai ρi, SR W P C Z Ai ρi σ H ∧ whileLoop c body m ρi = some (out, ρ'), ⟨n, A, ρ, S, e⟩, ?_⟩
  rintro m σi Hi ⟨Ai, ρi, Si, ei⟩
  cases m with
  | zero => cases ei
  | succ m =>
    unfold whileLoop at ei
    split at ei
    · rename_i ρ1 hc
      refine ⟨P, C, Z, Ai, ρi, true, ρ1, Si, hc, fun H1 C1 A1 mv => iteT ?_⟩
      cases hb : body ρ1 with
      | none => rw [hb] at ei; cases ei
      | some x =>
        obtain ⟨o1, ρb⟩ := x
        rw [hb] at ei
        refine ⟨fun σ' H' => ∃ A', SR W P C Z A' ρb σ' H' ∧ whileLoop c body m ρb = some (out, ρ'), fun σ' H' ⟨A', S', e'⟩ => ⟨m, by omega, A', ρb, S', e'⟩, ⟨P, C, Z, A1, ρ1, o1, ρb, mv.sr.subC mv.up, hb, ?_⟩⟩
        cases o1 with
        | nx => exact fun σ' H' A' S' => ⟨A', S', ei⟩
        | ct => exact fun σ' H' A' S' => ⟨A', S', ei⟩
        | bk => cases ei; exact fun σ' H' A' S' => q σ' H' A' S'
        | rt r => cases ei; exact fun v σ' H' C' A' up S' rv => q v σ' H' C' A' up S' rv
    · rename_i ρ1 hc
      cases ei
      exact ⟨P, C, Z, Ai, ρi, false, _, Si, hc, fun H1 C1 A1 mv => iteF (q σi H1 A1 (mv.sr.subC mv.up))⟩
    · cases ei
end
end Rv
end

section
set_option Elab.async false
set_option autoImplicit false
set_option linter.all false
set_option maxRecDepth 100000
set_option maxHeartbeats 1000000
/-! Rv5: comprehensions by a function of the state. -/
namespace Rv
open PySem PySem.Spec L2
open PyProof.Rows hiding St
open Classical

/-- what a body may change -/
def isMut : HO → Bool
  | .lst _ => true
  | .dK _ => true
  | .dT _ => true
  | .ins .. => true
  | _ => false
theorem isMut_tbl {o : HO} (h : isMut o = true) : isTbl o = false := by cases o <;> first | rfl | cases h
def lim : Nat := 16777216
theorem lim_eq : lim = sizeLine := by rw [sizeLine_eq]; rfl

section
variable {W : Wd} {P : Hp} {C C' : Av} {Z : Option Addr} {A A' : Nat → Option Addr} {ρ ρ' ρ1 ρ2 : Rho} {σ : St} {H H' H1 : Hp} {t : T} {v : V} {o o' : HO} {i : Nat} {p : Addr}
theorem tabs_upd {T0 : List NdefX.NTab} (h : H p = some o) (m : isMut o = true) (tb : NdefX.TabsN T0 H) : NdefX.TabsN T0 (upd H p o') := fun x hx => by
  obtain ⟨ps, h1, h2, h3⟩ := tb x hx
  refine ⟨ps, ?_, h2, fun pos cv hc => ?_⟩
  · rw [upd_ne (ne_of h1 h fun z => by subst z; cases m)]; exact h1
  · obtain ⟨c, e, h4⟩ := h3 pos cv hc
    refine ⟨c, e, ?_⟩
    rw [upd_ne (ne_of h4 h fun z => by subst z; cases m)]; exact h4
theorem upd_av {av : Av} {a : Addr} (n : ¬ av a) (hp : av p) : upd H p o' a = H a := upd_ne fun z => n (z ▸ hp)
theorem keep_upd (h : H p = some o) : ∀ a u, a ≠ p → H a = some u → isTbl u = false → upd H p o' a = some u := fun a u n e _ => by rw [upd_ne n]; exact e
theorem RpL.upd {av : Av} {l : List T} {xs : List V} (hp : av p) (r : RpL W H av l xs) : RpL W (upd H p o') av l xs :=
  r.move (fun _ z => z) (fun a u n e _ => by rw [upd_av n hp]; exact e) l xs
theorem Rp.upd {av : Av} (hp : av p) (r : Rp W H av t v) : Rp W (upd H p o') av t v :=
  r.move (fun _ z => z) (fun a u n e _ => by rw [upd_av n hp]; exact e) t v
/-- an outer cell to be avoided is changed -/
theorem SR.updC (S : SR W P C Z A ρ σ H) (hC : C p) (hP : P p = none) (h : H p = some o) (m : isMut o = true) (m' : isMut o' = true) : SR W P C Z A ρ σ (upd H p o') where
  slots := fun j t o e => by
    obtain ⟨v, e1, s⟩ := S.slots j t o e
    refine ⟨v, e1, ?_⟩
    cases o with
    | fr => exact ⟨s.1, s.2.upd (.inl hC)⟩
    | ow => obtain ⟨q, e, e', c⟩ := s; exact ⟨q, e, e', c.move (fun u z _ => by rw [upd_av (S.dis j q e) hC]; exact z) fun l xs r => r.upd (.inl hC)⟩
    | io => obtain ⟨q, e, e', c⟩ := s; exact ⟨q, e, e', c.move (fun u z _ => by rw [upd_av (S.dis j q e) hC]; exact z) fun l xs r => r.upd (.inl hC)⟩
  sup := S.sup
  inj := S.inj
  dis := S.dis
  ctr := fun a z n => by
    by_cases e : a = p
    · subst e
      have := n o' upd_same
      rw [isMut_tbl m'] at this; cases this
    · exact S.ctr a z fun u h => n u (by rw [upd_ne e]; exact h)
  keep := fun a u e => by
    have hn : a ≠ p := fun z => by subst z; rw [hP] at e; cases e
    rw [upd_ne hn]; exact S.keep a u e
  pnt := S.pnt
  prot := S.prot
  io := S.io
  tabs := tabs_upd h m S.tabs
  len := S.len
/-- the owned cell of the slot i is changed -/
theorem SR.updA {own : Own} {t' : T} (S : SR W P C Z A ρ σ H) (hr : rget ρ i = some (t, own)) (hA : A i = some p) (h : H p = some o) (m : isMut o = true) (m' : isMut o' = true) (c : Cl W (upd H p o') (av C A) p t') :
    SR W P C Z A (ρ.set i (some (t', own))) σ (upd H p o') := by
  have hi := rget_lt hr
  have hap : av C A p := .inr ⟨i, hA⟩
  exact {
    slots := fun j t1 o1 e => by
      rw [rget_set hi] at e
      split at e
      · rename_i hj
        subst hj
        cases e
        obtain ⟨v, e1, s⟩ := S.slots j t own hr
        rw [hA] at s
        obtain ⟨rfl, _⟩ := s.cell
        refine ⟨_, e1, ?_⟩
        cases own with
        | fr => obtain ⟨z, _⟩ := s; cases z
        | ow => exact ⟨p, hA, rfl, c⟩
        | io => exact ⟨p, hA, rfl, c⟩
      · rename_i hj
        obtain ⟨v, e1, s⟩ := S.slots j t1 o1 e
        refine ⟨v, e1, ?_⟩
        cases o1 with
        | fr => exact ⟨s.1, s.2.upd hap⟩
        | ow => obtain ⟨q, e, e', c⟩ := s; exact ⟨q, e, e', c.move (fun u z _ => by rw [upd_ne (show q ≠ p from fun w => hj (S.inj j i q e (w ▸ hA)))]; exact z) fun l xs r => r.upd hap⟩
        | io => obtain ⟨q, e, e', c⟩ := s; exact ⟨q, e, e', c.move (fun u z _ => by rw [upd_ne (show q ≠ p from fun w => hj (S.inj j i q e (w ▸ hA)))]; exact z) fun l xs r => r.upd hap⟩
    sup := fun j q e => by
      obtain ⟨t1, o1, e1, n⟩ := S.sup j q e
      rw [rget_set hi]
      split
      · rename_i hj
        subst hj
        rw [hr] at e1
        cases e1
        exact ⟨t', _, rfl, n⟩
      · exact ⟨t1, o1, e1, n⟩
    inj := S.inj
    dis := S.dis
    ctr := fun a z n => by
      by_cases e : a = p
      · subst e
        have := n o' upd_same
        rw [isMut_tbl m'] at this; cases this
      · exact S.ctr a z fun u h => n u (by rw [upd_ne e]; exact h)
    keep := fun a u e => by
      have hn : a ≠ p := fun z => by subst z; rw [S.prot i a hA] at e; cases e
      rw [upd_ne hn]; exact S.keep a u e
    pnt := S.pnt
    prot := S.prot
    io := fun q e => by
      obtain ⟨h1, t1, h2⟩ := S.io q e
      refine ⟨h1, ?_⟩
      rw [rget_set hi]
      split
      · rename_i hj
        subst hj
        rw [hr] at h2
        cases h2
        exact ⟨t', rfl⟩
      · exact ⟨t1, h2⟩
    tabs := tabs_upd h m S.tabs
    len := by rw [List.length_set]; exact S.len }

/-! ### slots forgotten -/
def wipe1R (i : Nat) (ρ : Rho) : Option Rho := match rget ρ i with
  | some (_, .io) => none
  | _ => if i < ρ.length then some (ρ.set i none) else none
def wipeR : List Nat → Rho → Option Rho
  | [], ρ => some ρ
  | i :: is, ρ => match wipeR is ρ with
    | none => none
    | some ρ1 => wipe1R i ρ1
theorem SR.wiped (S : SR W P C Z A ρ σ H) (h : wipe1R i ρ = some ρ1) : SR W P C Z (Aoff A i) ρ1 (σ.set i none) H := by
  unfold wipe1R at h
  split at h
  · cases h
  · rename_i hn
    split at h
    · rename_i hi
      cases h
      have S1 := S.wipe1 hi fun t z => hn t z
      exact {
        slots := fun j t o e => by
          rw [rget_set hi] at e
          split at e
          · cases e
          · rename_i hj
            obtain ⟨v, e1, s⟩ := S1.slots j t o (by rw [rget_set hi, if_neg hj]; exact e)
            exact ⟨v, by rw [List.getElem?_set_ne (Ne.symm hj)]; exact e1, s⟩
        sup := S1.sup
        inj := S1.inj
        dis := S1.dis
        ctr := S1.ctr
        keep := S1.keep
        pnt := S1.pnt
        prot := S1.prot
        io := S1.io
        tabs := S1.tabs
        len := by have := S1.len; simp only [List.length_set] at this ⊢; exact this }
    · cases h
theorem SR.wipeAll : ∀ {vs : List Nat} {ρ ρ1 : Rho} {A : Nat → Option Addr}, SR W P C Z A ρ σ H → wipeR vs ρ = some ρ1 → ∃ A', (∀ i p, A' i = some p → A i = some p) ∧ SR W P C Z A' ρ1 (wipe σ vs) H
  | [], ρ, ρ1, A, S, e => by cases e; exact ⟨A, fun _ _ z => z, S⟩
  | i :: is, ρ, ρ1, A, S, e => by
    unfold wipeR at e
    cases hw : wipeR is ρ with
    | none => rw [hw] at e; cases e
    | some ρ2 =>
      rw [hw] at e
      obtain ⟨A', sb, S'⟩ := SR.wipeAll (vs := is) S hw
      exact ⟨_, fun j p z => sb j p (Aoff_some z).1, S'.wiped e⟩
theorem SR.unwipe {vs : List Nat} (S : SR W P C Z A ρ (wipe σ vs) H) : SR W P C Z A ρ σ H where
  slots := fun j t o e => by
    obtain ⟨v, e1, s⟩ := S.slots j t o e
    exact ⟨v, (wipe_some e1).1, s⟩
  sup := S.sup
  inj := S.inj
  dis := S.dis
  ctr := S.ctr
  keep := S.keep
  pnt := S.pnt
  prot := S.prot
  io := S.io
  tabs := S.tabs
  len := by rw [S.len, wipe_length]
theorem wipe_wipe {σ : St} {vs : List Nat} : ∀ {ws : List Nat}, (∀ i ∈ ws, i ∈ vs) → wipe (wipe σ ws) vs = wipe σ vs
  | [], _ => rfl
  | w :: ws, h => by
    show wipe ((wipe σ ws).set w none) vs = _
    rw [wipe_set (h w List.mem_cons_self), wipe_wipe fun i hi => h i (List.mem_cons_of_mem _ hi)]

/-! ### list comprehensions -/
/-- one turn behind the target: the test, the element, if it is taken, and the state with the block's names forgotten -/
def turnM (cond elt : M) (vs : List Nat) : Rho → Option (List T × Rho) := fun ρa => match cond ρa with
  | some ((T.bl true, false), ρb) => (match elt ρb with
    | none => none
    | some (r, ρc) => match wipeR vs ρc with
      | none => none
      | some ρd => some ([r.1], ρd))
  | some ((T.bl false, false), ρb) => (match wipeR vs ρb with
    | none => none
    | some ρd => some ([], ρd))
  | _ => none
def compLoop (tg : Tg) (turn : Rho → Option (List T × Rho)) : List T → Rho → Option (List T × Rho)
  | [], ρ => some ([], ρ)
  | t :: ts, ρ => match tgM tg t ρ with
    | none => none
    | some ρa => match turn ρa with
      | none => none
      | some (o1, ρd) => match compLoop tg turn ts ρd with
        | none => none
        | some (rs, ρe) => some (o1 ++ rs, ρe)
def yesM : M := fun ρ => some ((T.bl true, false), ρ)
theorem yes_ok {Q : Bool → Hp → Prop} (h : tOfT W yesM σ H Q) : tYes σ H Q := by
  obtain ⟨P, C, Z, A, ρ, b, ρ', S, e, q⟩ := h
  cases e
  exact q H C A (.refl S)
theorem Cl.snoc {av : Av} {ts : List T} (hp : av p) (c : Cl W H av p (.lst ts)) (r : Rp W H av t v) : ∃ acc, H p = some (.lst acc) ∧ acc.length = ts.length ∧ Cl W (upd H p (.lst (acc ++ [v]))) av p (.lst (ts ++ [t])) := by
  obtain ⟨xs, e, rl⟩ := c
  exact ⟨xs, e, rl.length, xs ++ [v], upd_same, (rl.append (.one r)).upd hp⟩
theorem nw_upd {a : Addr} (m' : isMut o' = true) (n : ¬ Nw H a) : ¬ Nw (upd H p o') a := fun z => by
  by_cases e : a = p
  · subst e
    have := z o' upd_same
    rw [isMut_tbl m'] at this; cases this
  · exact n fun u h => z u (by rw [upd_ne e]; exact h)
/-- a new list at D, as a comprehension's body sees it -/
theorem turn_ok {cond elt : M} {vs : List Nat} {D : Addr} {outs o1 : List T} {ρa ρd : Rho} {Nx : Hp → Prop} (S : SR W P C Z A ρa σ H) (hC : C D) (hP : P D = none) (c : Cl W H (av C A) D (.lst outs)) (lo : outs.length < lim ∨ o1 = [])
    (e : turnM cond elt vs ρa = some (o1, ρd)) (q : ∀ A' H', SR W P C Z A' ρd (wipe σ vs) H' → (∀ i p, A' i = some p → A i = some p) → Cl W H' (av C A') D (.lst (outs ++ o1)) → (∀ a, ¬ Nw H a → ¬ Nw H' a) → Nx H') :
    tOfT W cond σ H fun b H3 => if b = true then tOf W elt σ H3 fun y H4 => ∃ acc, H4 D = some (.lst acc) ∧ acc.length < sizeLine ∧ Nx (upd H4 D (.lst (acc ++ [y]))) else Nx H3 := by
  have ov : OV W (fun _ => none) H C A (.lst outs, true) (.ref D) := by
    show OV W (fun _ => none) H C A (.lst outs, true) (.ref D)
    unfold OV
    rw [if_pos rfl]
    exact ⟨D, rfl, .of rfl, hC, c⟩
  unfold turnM at e
  split at e
  · rename_i ρb hc
    split at e
    · cases e
    rename_i r ρc he
    split at e
    · cases e
    rename_i ρd' hw
    cases e
    refine ⟨Pf H A, C, Z, A, ρa, true, ρb, S.pf, hc, fun H3 C3 A3 m3 => iteT ?_⟩
    refine tOf_seq S.pf m3 he fun yv H4 C4 A4 m4 o4 => ?_
    have m0 := m4.drop S.pf
    have ry : Rp W H4 (av C A4) r.1 yv := OV.rp o4 m4.up (m4.ctr S.pf)
    have ov4 := OV.stay S m0 ov
    unfold OV at ov4
    rw [if_pos rfl] at ov4
    obtain ⟨D', eD, _, _, c4⟩ := ov4
    cases eD
    obtain ⟨acc, ea, la, c5⟩ := c4.snoc (.inl hC) ry
    have S4 : SR W P C Z A4 ρc σ H4 := m0.sr.less S.le
    have S5 : SR W P C Z A4 ρc σ (upd H4 D (.lst (acc ++ [yv]))) := S4.updC hC hP ea rfl rfl
    obtain ⟨A6, sb6, S6⟩ := S5.wipeAll hw
    refine ⟨acc, ea, ?_, q A6 _ S6 (fun i p z => m4.subA i p (sb6 i p z)) (c5.move (fun _ z _ => z) fun l xs r => r.sub fun a z => z.elim .inl fun ⟨j, e⟩ => .inr ⟨j, sb6 j a e⟩) fun a z => nw_upd rfl (m4.dom a z)⟩
    rcases lo with lo | lo
    · rw [← lim_eq, la]; exact lo
    · cases lo
  · rename_i ρb hc
    split at e
    · cases e
    rename_i ρd' hw
    cases e
    refine ⟨Pf H A, C, Z, A, ρa, false, ρb, S.pf, hc, fun H3 C3 A3 m3 => iteF ?_⟩
    have m0 := m3.drop S.pf
    have ov4 := OV.stay S m0 ov
    unfold OV at ov4
    rw [if_pos rfl] at ov4
    obtain ⟨D', eD, _, _, c4⟩ := ov4
    cases eD
    have S4 : SR W P C Z A3 ρb σ H3 := m0.sr.less S.le
    obtain ⟨A6, sb6, S6⟩ := S4.wipeAll hw
    refine q A6 _ S6 (fun i p z => m3.subA i p (sb6 i p z)) ?_ m3.dom
    rw [List.append_nil]
    exact c4.move (fun _ z _ => z) fun l xs r => r.sub fun a z => z.elim .inl fun ⟨j, e⟩ => .inr ⟨j, sb6 j a e⟩
  · cases e
def Pd (P : Hp) (D : Addr) : Hp := fun a => if a = D then none else P a
theorem Pd_some {D a : Addr} {u : HO} (h : Pd P D a = some u) : P a = some u ∧ a ≠ D := by
  unfold Pd at h
  split at h
  · cases h
  · exact ⟨h, by assumption⟩
theorem of_Pd {D a : Addr} {u : HO} (h : P a = some u) (n : a ≠ D) : Pd P D a = some u := by unfold Pd; rw [if_neg n]; exact h
/-- the outer turn of a comprehension of two clauses -/
def turn2M (cond : M) (src1 : SrcM) (tg1 : Tg) (cond1 elt : M) (vs vs1 : List Nat) : Rho → Option (List T × Rho) := fun ρa => match cond ρa with
  | some ((T.bl true, false), ρb) => (match src1 ρb with
    | none => none
    | some (ts1, ρc) => match wipeR vs1 ρc with
      | none => none
      | some ρw => match compLoop tg1 (turnM cond1 elt vs1) ts1 ρw with
        | none => none
        | some (rs, ρd) => match wipeR vs ρd with
          | none => none
          | some ρe => some (rs, ρe))
  | some ((T.bl false, false), ρb) => (match wipeR vs ρb with
    | none => none
    | some ρd => some ([], ρd))
  | _ => none
theorem turn2_ok {cond : M} {src1 : SrcM} {tg1 : Tg} {g1 : TG} {cond1 elt : M} {vs vs1 : List Nat} {D : Addr} {outs o1 : List T} {ρa ρd : Rho} {Nx : Hp → Prop} (hg1 : ∀ v σ H K, gOf W tg1 v σ H K → g1 v σ H K) (hs1 : ∀ i ∈ tg1.slots, i ∈ vs1) (hv : ∀ i ∈ vs1, i ∈ vs)
    (S : SR W P C Z A ρa σ H) (hC : C D) (hP : P D = none) (c : Cl W H (av C A) D (.lst outs)) (lo : outs.length + o1.length ≤ lim)
    (e : turn2M cond src1 tg1 cond1 elt vs vs1 ρa = some (o1, ρd)) (q : ∀ A' H', SR W P C Z A' ρd (wipe σ vs) H' → (∀ i p, A' i = some p → A i = some p) → Cl W H' (av C A') D (.lst (outs ++ o1)) → (∀ a, ¬ Nw H a → ¬ Nw H' a) → Nx H') :
    tOfT W cond σ H fun b H3 => if b = true then tI W src1 σ H3 fun J1 H4 => ∃ W1 : Nat → Nat → Hp → Prop, (∃ m, W1 0 m H4) ∧ ∀ j k H, W1 j k H →
      (J1.stop j H ∧ Nx H) ∨ (J1.go j H ∧ ∃ Nx1 : Hp → Prop, (∀ H', Nx1 H' → ∃ k', k' < k ∧ W1 (j + 1) k' H') ∧ ∀ x H', J1.yld j H x H' → g1 x (wipe σ vs1) H' fun σ3 H5 => wipe σ3 vs1 = wipe σ vs1 ∧ tOfT W cond1 σ3 H5 fun b H6 =>
        if b = true then tOf W elt σ3 H6 fun y H7 => ∃ acc, H7 D = some (.lst acc) ∧ acc.length < sizeLine ∧ Nx1 (upd H7 D (.lst (acc ++ [y]))) else Nx1 H6)
    else Nx H3 := by
  have ov : OV W (fun _ => none) H C A (.lst outs, true) (.ref D) := by
    unfold OV
    rw [if_pos rfl]
    exact ⟨D, rfl, .of rfl, hC, c⟩
  unfold turn2M at e
  split at e
  · rename_i ρb hc
    split at e
    · cases e
    rename_i ts1 ρc hsrc
    split at e
    · cases e
    rename_i ρw hw
    split at e
    · cases e
    rename_i rs ρe hl
    split at e
    · cases e
    rename_i ρf hwf
    cases e
    refine ⟨Pf H A, C, Z, A, ρa, true, ρb, S.pf, hc, fun H3 C3 A3 m3 => iteT ?_⟩
    refine ⟨Pf H3 A3, C3, Z, A3, ρb, ts1, ρc, m3.sr.pf, hsrc, fun J H4 C4 A4 m4 it => ?_⟩
    have m34 := m3.trans S.pf m4
    have it := it.le (P' := Pd (Pf H4 A4) D) fun a o z => of_Pd (Pc_le z).1 fun w => (Pc_le z).2 (w ▸ m3.up D hC)
    have ov4 := OV.stay S m34 ov
    unfold OV at ov4
    rw [if_pos rfl] at ov4
    obtain ⟨D', eD, _, _, c4⟩ := ov4
    cases eD
    have hD4 : C4 D := m34.up D hC
    have leP : ∀ a o, P a = some o → Pd (Pf H4 A4) D a = some o := fun a o z => of_Pd (m34.sr.le a o (S.le a o z)) fun w => by rw [w, hP] at z; cases z
    have S4 : SR W (Pd (Pf H4 A4) D) C4 Z A4 ρc σ H4 := m34.sr.pf.less fun a o z => (Pd_some z).1
    obtain ⟨Aw, sbw, Sw⟩ := S4.wipeAll hw
    have hPD : Pd (Pf H4 A4) D D = none := by unfold Pd; rw [if_pos rfl]
    refine ⟨fun i n H => n = ts1.length - i ∧ i ≤ ts1.length ∧ ∃ Ai ρi outs1 rest, SR W (Pd (Pf H4 A4) D) C4 Z Ai ρi (wipe σ vs1) H ∧ (∀ i p, Ai i = some p → A4 i = some p) ∧ Cl W H (av C4 Ai) D (.lst (outs ++ outs1)) ∧
      compLoop tg1 (turnM cond1 elt vs1) (ts1.drop i) ρi = some (rest, ρe) ∧ o1 = outs1 ++ rest ∧ (∀ a, ¬ Nw H4 a → ¬ Nw H a), ⟨ts1.length, by simp, Nat.zero_le _, Aw, ρw, [], o1, Sw, sbw, ?_, by simpa using hl, rfl, fun a z => z⟩, ?_⟩
    · rw [List.append_nil]
      exact c4.move (fun _ z _ => z) fun l xs r => r.sub fun a z => z.elim .inl fun ⟨j, e⟩ => .inr ⟨j, sbw j a e⟩
    rintro i n Hi ⟨rfl, hi, Ai, ρi, outs1, rest, Si, sbi, ci, ei, er, di⟩
    by_cases hlt : i < ts1.length
    · have hd : ts1.drop i = ts1[i] :: ts1.drop (i + 1) := List.drop_eq_getElem_cons hlt
      rw [hd] at ei
      unfold compLoop at ei
      have hti : ts1[i]? = some ts1[i] := List.getElem?_eq_getElem hlt
      split at ei
      · cases ei
      rename_i ρg hta
      split at ei
      · cases ei
      rename_i o2 ρh htu
      split at ei
      · cases ei
      rename_i rs' ρk hre
      cases ei
      refine .inr ⟨it.go i _ Hi hti Si.keep, fun H' => ∃ Aj, SR W (Pd (Pf H4 A4) D) C4 Z Aj ρh (wipe σ vs1) H' ∧ (∀ i p, Aj i = some p → A4 i = some p) ∧ Cl W H' (av C4 Aj) D (.lst ((outs ++ outs1) ++ o2)) ∧ (∀ a, ¬ Nw H4 a → ¬ Nw H' a), ?_, ?_⟩
      · rintro H' ⟨Aj, Sj, sbj, cj, dj⟩
        exact ⟨ts1.length - (i + 1), by omega, rfl, by omega, Aj, ρh, outs1 ++ o2, rs', Sj, sbj, by rw [← List.append_assoc]; exact cj, hre, by rw [er, List.append_assoc], dj⟩
      · intro x H' y
        obtain ⟨k, tb, rr⟩ := it.yld i _ Hi x H' hti Si.keep Si.tabs y
        have S' := Si.ext k tb
        refine hg1 _ _ _ _ ⟨Pd (Pf H4 A4) D, C4, Z, Ai, ρi, ts1[i], ρg, S', rr _ (fun a z => ?_), hta, fun σ2 A2 S2 sb2 hw2 => ?_⟩
        · rcases z with z | ⟨j, z⟩
          · exact ⟨Si.ctr a z, .inl (.inl z)⟩
          · exact ⟨Si.atr z, .inr (Si.prot j a z)⟩
        have ew : wipe σ2 vs1 = wipe σ vs1 := (hw2 vs1 hs1).trans (wipe_wipe fun i h => h)
        refine ⟨ew, ?_⟩
        refine turn_ok S2 hD4 hPD (ci.move (k D) fun l xs r => (r.ext k).sub fun a z => z.elim .inl fun ⟨j, e⟩ => .inr ⟨j, sb2 j a e⟩) ?_ htu fun A' H'' S'' sb'' c'' d'' => ?_
        · cases o2 with
          | nil => exact .inr rfl
          | cons a b =>
            refine .inl ?_
            have := congrArg List.length er
            simp only [List.length_append, List.length_cons] at this ⊢
            omega
        · rw [ew] at S''
          exact ⟨A', S'', fun i p z => sbi i p (sb2 i p (sb'' i p z)), c'', fun a z => d'' a (Nw.ext k (di a z))⟩
    · have ee : i = ts1.length := by omega
      subst ee
      rw [List.drop_length] at ei
      cases ei
      rw [List.append_nil] at er
      subst er
      refine .inl ⟨it.stop Hi Si.keep, ?_⟩
      obtain ⟨A6, sb6, S6⟩ := Si.wipeAll hwf
      rw [wipe_wipe hv] at S6
      refine q A6 Hi ((S6.less leP).subC m34.up) (fun i p z => m34.subA i p (sbi i p (sb6 i p z))) (ci.move (fun _ z _ => z) fun l xs r => r.sub fun a z => z.elim (fun z => .inl (m34.up a z)) fun ⟨j, e⟩ => .inr ⟨j, sb6 j a e⟩) fun a z => di a (m34.dom a z)
  · rename_i ρb hc
    split at e
    · cases e
    rename_i ρd' hw
    cases e
    refine ⟨Pf H A, C, Z, A, ρa, false, ρb, S.pf, hc, fun H3 C3 A3 m3 => iteF ?_⟩
    have m0 := m3.drop S.pf
    have ov4 := OV.stay S m0 ov
    unfold OV at ov4
    rw [if_pos rfl] at ov4
    obtain ⟨D', eD, _, _, c4⟩ := ov4
    cases eD
    have S4 : SR W P C Z A3 ρb σ H3 := m0.sr.less S.le
    obtain ⟨A6, sb6, S6⟩ := S4.wipeAll hw
    refine q A6 _ S6 (fun i p z => m3.subA i p (sb6 i p z)) ?_ m3.dom
    rw [List.append_nil]
    exact c4.move (fun _ z _ => z) fun l xs r => r.sub fun a z => z.elim .inl fun ⟨j, e⟩ => .inr ⟨j, sb6 j a e⟩
  · cases e
def compG (src : SrcM) (tg : Tg) (turn : Rho → Option (List T × Rho)) (vs : List Nat) : M := fun ρ => match src ρ with
  | none => none
  | some (ts, ρ1) => match wipeR vs ρ1 with
    | none => none
    | some ρw => match compLoop tg turn ts ρw with
      | none => none
      | some (rs, ρ2) => if rs.length ≤ lim then some ((.lst rs, true), ρ2) else none
/-- a turn's reading: what it needs and gives -/
def TurnOk (W : Wd) (turn : Rho → Option (List T × Rho)) (vs : List Nat) (R : Addr → (Hp → Prop) → St → Hp → Prop) : Prop :=
  ∀ (P : Hp) (C : Av) (Z : Option Addr) (A : Nat → Option Addr) (σ : St) (H : Hp) (D : Addr) (outs o1 : List T) (ρa ρd : Rho) (Nx : Hp → Prop), SR W P C Z A ρa σ H → C D → P D = none → Cl W H (av C A) D (.lst outs) → outs.length + o1.length ≤ lim → turn ρa = some (o1, ρd) →
    (∀ A' H', SR W P C Z A' ρd (wipe σ vs) H' → (∀ i p, A' i = some p → A i = some p) → Cl W H' (av C A') D (.lst (outs ++ o1)) → (∀ a, ¬ Nw H a → ¬ Nw H' a) → Nx H') → R D Nx σ H
theorem compG_ok {src : SrcM} {tg : Tg} {g : TG} {turn : Rho → Option (List T × Rho)} {R : Addr → (Hp → Prop) → St → Hp → Prop} {vs : List Nat} {Q : VK} (hg : ∀ v σ H K, gOf W tg v σ H K → g v σ H K) (hs : ∀ i ∈ tg.slots, i ∈ vs) (ht : TurnOk W turn vs R) (h : tOf W (compG src tg turn vs) σ H Q) :
    tI W src σ H fun J H1 => ∀ D, H1 D = none → ∃ W : Nat → Nat → Hp → Prop, (∃ m, W 0 m (upd H1 D (.lst []))) ∧ ∀ i m H, W i m H →
      (J.stop i H ∧ Q (.ref D) H) ∨ (J.go i H ∧ ∃ Nx : Hp → Prop, (∀ H', Nx H' → ∃ m', m' < m ∧ W (i + 1) m' H') ∧ ∀ x H', J.yld i H x H' → g x (wipe σ vs) H' fun σ2 H2 => wipe σ2 vs = wipe σ vs ∧ R D Nx σ2 H2) := by
  obtain ⟨P, C, Z, A, ρ, r, ρ', S, e, q⟩ := h
  unfold compG at e
  split at e
  · cases e
  rename_i ts ρ1 hsrc
  split at e
  · cases e
  rename_i ρw hw
  split at e
  · cases e
  rename_i rs ρ2 hl
  split at e
  rotate_left
  · cases e
  rename_i hlim
  cases e
  refine ⟨P, C, Z, A, ρ, ts, ρ1, S, hsrc, fun J H1 C1 A1 m it => fun D hD => ?_⟩
  have it := it.le (P' := Pf H1 A1) fun a o z => (Pc_le z).1
  have nD : Nw H1 D := .of hD
  have k1 : ExtN H1 (upd H1 D (.lst [])) := ExtN.upd hD
  have tb1 : NdefX.TabsN W.tb (upd H1 D (.lst [])) := m.sr.tabs.ext fun b o e => by rw [upd_ne (ne_of_none e hD)]; exact e
  have nD' : ¬ Nw (upd H1 D (.lst [])) D := fun z => by have := z _ upd_same; cases this
  have S1 := m.sr.pf.addC (p := D) nD k1 tb1 nD'
  obtain ⟨Aw, sbw, Sw⟩ := S1.wipeAll hw
  have hPD : Pf H1 A1 D = none := by
    cases q : Pf H1 A1 D with
    | none => rfl
    | some o => have := (of_Pf q).1; rw [hD] at this; cases this
  refine ⟨fun i n H => n = ts.length - i ∧ i ≤ ts.length ∧ ∃ Ai ρi outs rest, SR W (Pf H1 A1) (Cadd C1 D) Z Ai ρi (wipe σ vs) H ∧ (∀ i p, Ai i = some p → A1 i = some p) ∧ Cl W H (av (Cadd C1 D) Ai) D (.lst outs) ∧
    compLoop tg turn (ts.drop i) ρi = some (rest, ρ') ∧ rs = outs ++ rest ∧ (∀ a, ¬ Nw H1 a → ¬ Nw H a), ⟨ts.length, by simp, Nat.zero_le _, Aw, ρw, [], rs, Sw, sbw, ⟨[], upd_same, RpL.nil⟩, by simpa using hl, rfl, fun a z => Nw.ext k1 z⟩, ?_⟩
  rintro i n Hi ⟨rfl, hi, Ai, ρi, outs, rest, Si, sbi, ci, ei, er, di⟩
  by_cases hlt : i < ts.length
  · have hd : ts.drop i = ts[i] :: ts.drop (i + 1) := List.drop_eq_getElem_cons hlt
    rw [hd] at ei
    unfold compLoop at ei
    have hti : ts[i]? = some ts[i] := List.getElem?_eq_getElem hlt
    split at ei
    · cases ei
    rename_i ρa hta
    split at ei
    · cases ei
    rename_i o1 ρd htu
    split at ei
    · cases ei
    rename_i rs' ρe hre
    cases ei
    refine .inr ⟨it.go i _ Hi hti Si.keep, fun H' => ∃ Aj, SR W (Pf H1 A1) (Cadd C1 D) Z Aj ρd (wipe σ vs) H' ∧ (∀ i p, Aj i = some p → A1 i = some p) ∧ Cl W H' (av (Cadd C1 D) Aj) D (.lst (outs ++ o1)) ∧ (∀ a, ¬ Nw H1 a → ¬ Nw H' a), ?_, ?_⟩
    · rintro H' ⟨Aj, Sj, sbj, cj, dj⟩
      exact ⟨ts.length - (i + 1), by omega, rfl, by omega, Aj, ρd, _, rs', Sj, sbj, cj, hre, by rw [er, List.append_assoc], dj⟩
    · intro x H' y
      obtain ⟨k, tb, rr⟩ := it.yld i _ Hi x H' hti Si.keep Si.tabs y
      have S' := Si.ext k tb
      refine hg _ _ _ _ ⟨Pf H1 A1, Cadd C1 D, Z, Ai, ρi, ts[i], ρa, S', rr _ (fun a z => ?_), hta, fun σ2 A2 S2 sb2 hw2 => ?_⟩
      · rcases z with (z | z) | ⟨j, z⟩
        · exact ⟨Si.ctr a (.inl z), .inl (.inl z)⟩
        · subst z; exact ⟨Si.ctr a (.inr rfl), .inr hPD⟩
        · exact ⟨Si.atr z, .inr (Si.prot j a z)⟩
      have ew : wipe σ2 vs = wipe σ vs := (hw2 vs hs).trans (wipe_wipe fun i h => h)
      refine ⟨ew, ?_⟩
      refine ht _ _ _ _ _ _ _ _ _ _ _ _ S2 (.inr rfl) hPD (ci.move (k D) fun l xs r => (r.ext k).sub fun a z => z.elim .inl fun ⟨j, e⟩ => .inr ⟨j, sb2 j a e⟩) ?_ htu fun A' H'' S'' sb'' c'' d'' => ?_
      · have := congrArg List.length er
        simp only [List.length_append] at this
        omega
      · rw [ew] at S''
        exact ⟨A', S'', fun i p z => sbi i p (sb2 i p (sb'' i p z)), c'', fun a z => d'' a (Nw.ext k (di a z))⟩
  · have ee : i = ts.length := by omega
    subst ee
    rw [List.drop_length] at ei
    cases ei
    refine .inl ⟨it.stop Hi Si.keep, ?_⟩
    rw [List.append_nil] at er
    subst er
    refine q _ Hi (Cadd C1 D) Ai ⟨fun i p z => m.subA i p (sbi i p z), fun a z => .inl (m.up a z), fun a z => z.elim (m.dn a) fun z => .inr (Classical.byContradiction fun w => m.dom D (z ▸ w) nD), fun a z => di a (m.dom a z), (Si.unwipe).less m.sr.le⟩ ?_
    unfold OV
    rw [if_pos rfl]
    exact ⟨D, rfl, Classical.byContradiction fun w => m.dom D w nD, .inr rfl, ci⟩
theorem turn_lo {n : Nat} {o1 : List T} (h : n + o1.length ≤ lim) : n < lim ∨ o1 = [] := by
  cases o1 with
  | nil => exact .inr rfl
  | cons a b => refine .inl ?_; simp only [List.length_cons] at h; omega
def compM (src : SrcM) (tg : Tg) (cond elt : M) (vs : List Nat) : M := compG src tg (turnM cond elt vs) vs
theorem comp_ok {src : SrcM} {tg : Tg} {g : TG} {cond elt : M} {vs : List Nat} {Q : VK} (hg : ∀ v σ H K, gOf W tg v σ H K → g v σ H K) (hs : ∀ i ∈ tg.slots, i ∈ vs) (h : tOf W (compM src tg cond elt vs) σ H Q) :
    tLc (tI W src) g (tOfT W cond) (tOf W elt) vs σ H Q :=
  compG_ok (R := fun D Nx σ2 H2 => tOfT W cond σ2 H2 fun b H3 => if b = true then tOf W elt σ2 H3 fun y H4 => ∃ acc, H4 D = some (.lst acc) ∧ acc.length < sizeLine ∧ Nx (upd H4 D (.lst (acc ++ [y]))) else Nx H3) hg hs
    (fun P C Z A σ H D outs o1 ρa ρd Nx S hC hP c lo e q => turn_ok S hC hP c (turn_lo lo) e q) h
def comp2M (src : SrcM) (tg : Tg) (cond : M) (src1 : SrcM) (tg1 : Tg) (cond1 elt : M) (vs vs1 : List Nat) : M := compG src tg (turn2M cond src1 tg1 cond1 elt vs vs1) vs
theorem comp2_ok {src : SrcM} {tg : Tg} {g : TG} {cond : M} {src1 : SrcM} {tg1 : Tg} {g1 : TG} {cond1 elt : M} {vs vs1 : List Nat} {Q : VK} (hg : ∀ v σ H K, gOf W tg v σ H K → g v σ H K) (hs : ∀ i ∈ tg.slots, i ∈ vs)
    (hg1 : ∀ v σ H K, gOf W tg1 v σ H K → g1 v σ H K) (hs1 : ∀ i ∈ tg1.slots, i ∈ vs1) (hv : ∀ i ∈ vs1, i ∈ vs) (h : tOf W (comp2M src tg cond src1 tg1 cond1 elt vs vs1) σ H Q) :
    tLc2 (tI W src) g (tOfT W cond) (tI W src1) g1 (tOfT W cond1) (tOf W elt) vs vs1 σ H Q :=
  compG_ok (R := fun D Nx σ2 H2 => tOfT W cond σ2 H2 fun b H3 => if b = true then tI W src1 σ2 H3 fun J1 H4 => ∃ W1 : Nat → Nat → Hp → Prop, (∃ m, W1 0 m H4) ∧ ∀ j k H, W1 j k H →
      (J1.stop j H ∧ Nx H) ∨ (J1.go j H ∧ ∃ Nx1 : Hp → Prop, (∀ H', Nx1 H' → ∃ k', k' < k ∧ W1 (j + 1) k' H') ∧ ∀ x H', J1.yld j H x H' → g1 x (wipe σ2 vs1) H' fun σ3 H5 => wipe σ3 vs1 = wipe σ2 vs1 ∧ tOfT W cond1 σ3 H5 fun b H6 =>
        if b = true then tOf W elt σ3 H6 fun y H7 => ∃ acc, H7 D = some (.lst acc) ∧ acc.length < sizeLine ∧ Nx1 (upd H7 D (.lst (acc ++ [y]))) else Nx1 H6)
    else Nx H3) hg hs
    (fun P C Z A σ H D outs o1 ρa ρd Nx S hC hP c lo e q => turn2_ok hg1 hs1 hv S hC hP c lo e q) h
end
end Rv
end

section
set_option Elab.async false
set_option autoImplicit false
set_option linter.all false
set_option maxRecDepth 100000
set_option maxHeartbeats 1000000
/-! Rv6: changes of a local's own object; defs and calls, by a function of the state. -/
namespace Rv
open PySem PySem.Spec L2
open PyProof.Rows hiding St
open Classical

section
variable {W : Wd} {P : Hp} {C C' : Av} {Z : Option Addr} {A A' : Nat → Option Addr} {ρ ρ' ρ1 ρ2 : Rho} {σ : St} {H H' H1 : Hp} {t t' : T} {v : V} {o o' : HO} {i : Nat} {p : Addr} {own : Own}

/-- the owned cell p of the slot i has been changed, all else kept; more cells may be avoided -/
theorem SR.change (S : SR W P C Z A ρ σ H) (hr : rget ρ i = some (t, own)) (hA : A i = some p) (up : ∀ a, C a → C' a) (dn : ∀ a, C' a → C a ∨ Nw H a) (ctr : ∀ a, C' a → ¬ Nw H' a) (k : ∀ a u, a ≠ p → H a = some u → isTbl u = false → H' a = some u)
    (tb : NdefX.TabsN W.tb H') (c : Cl W H' (av C' A) p t') : SR W P C' Z A (ρ.set i (some (t', own))) σ H' := by
  have hi := rget_lt hr
  have hap : av C A p := .inr ⟨i, hA⟩
  have hav : ∀ a, av C' A a → av C A a ∨ Nw H a := fun a z => z.elim (fun z => (dn a z).elim (fun z => .inl (.inl z)) .inr) fun z => .inl (.inr z)
  have mvL : ∀ l xs, RpL W H (av C A) l xs → RpL W H' (av C' A) l xs := fun l xs r => (r.avoid (av' := fun a => av C' A a ∨ av C A a) (fun a z => z.elim (hav a) .inl) l xs).move (fun a z => .inl z) (fun a u n e q => k a u (fun z => n (.inr (z ▸ hap))) e q) l xs
  have mv1 : ∀ l xs, Rp W H (av C A) l xs → Rp W H' (av C' A) l xs := fun l xs r => (r.avoid (av' := fun a => av C' A a ∨ av C A a) (fun a z => z.elim (hav a) .inl) l xs).move (fun a z => .inl z) (fun a u n e q => k a u (fun z => n (.inr (z ▸ hap))) e q) l xs
  exact {
    slots := fun j t1 o1 e => by
      rw [rget_set hi] at e
      split at e
      · rename_i hj
        subst hj
        cases e
        obtain ⟨v, e1, s⟩ := S.slots j t own hr
        rw [hA] at s
        obtain ⟨rfl, _⟩ := s.cell
        refine ⟨_, e1, ?_⟩
        cases own with
        | fr => obtain ⟨z, _⟩ := s; cases z
        | ow => exact ⟨p, hA, rfl, c⟩
        | io => exact ⟨p, hA, rfl, c⟩
      · rename_i hj
        obtain ⟨v, e1, s⟩ := S.slots j t1 o1 e
        refine ⟨v, e1, ?_⟩
        cases o1 with
        | fr => exact ⟨s.1, mv1 _ _ s.2⟩
        | ow => obtain ⟨q, e, e', c⟩ := s; exact ⟨q, e, e', c.move (fun u z n => k q u (fun w => hj (S.inj j i q e (w ▸ hA))) z n) mvL⟩
        | io => obtain ⟨q, e, e', c⟩ := s; exact ⟨q, e, e', c.move (fun u z n => k q u (fun w => hj (S.inj j i q e (w ▸ hA))) z n) mvL⟩
    sup := fun j q e => by
      obtain ⟨t1, o1, e1, n⟩ := S.sup j q e
      rw [rget_set hi]
      split
      · rename_i hj
        subst hj
        rw [hr] at e1
        cases e1
        exact ⟨t', _, rfl, n⟩
      · exact ⟨t1, o1, e1, n⟩
    inj := S.inj
    dis := fun j q e z => (dn q z).elim (S.dis j q e) (S.atr e)
    ctr := ctr
    keep := fun a u e => by
      have hn : a ≠ p := fun z => by subst z; rw [S.prot i a hA] at e; cases e
      exact k a u hn (S.keep a u e) (S.pnt a u e)
    pnt := S.pnt
    prot := S.prot
    io := fun q e => by
      obtain ⟨h1, t1, h2⟩ := S.io q e
      refine ⟨h1, ?_⟩
      rw [rget_set hi]
      split
      · rename_i hj
        subst hj
        rw [hr] at h2
        cases h2
        exact ⟨t', rfl⟩
      · exact ⟨t1, h2⟩
    tabs := tb
    len := by rw [List.length_set]; exact S.len }

/-! ### changes by a rule -/
theorem tOf_mono {f : M} {Q Q' : VK} (h : tOf W f σ H Q) (k : ∀ v H, Q v H → Q' v H) : tOf W f σ H Q' := by
  obtain ⟨P, C, Z, A, ρ, r, ρ', S, e, q⟩ := h
  exact ⟨P, C, Z, A, ρ, r, ρ', S, e, fun v H' C' A' m o => k _ _ (q v H' C' A' m o)⟩
theorem ops_mono : ∀ {os : List Op} {H : Hp} {Q Q' : List V → Hp → Prop}, tOs W os σ H Q → (∀ vs H, Q vs H → Q' vs H) → tOs W os σ H Q'
  | [], _, _, _, h, k => k _ _ h
  | .val f :: os, _, _, _, h, k => tOf_mono h fun v H1 z => ops_mono (os := os) z fun vs H2 w => k _ _ w
  | .pk i :: os, _, _, _, h, k => by
    obtain ⟨v, e, z⟩ := h
    exact ⟨v, e, ops_mono (os := os) z fun vs H2 w => k _ _ w⟩
/-- an operand that is handed over: fresh, or nobody's own -/
def Ob (W : Wd) (H : Hp) (av : Av) (r : Res) (v : V) : Prop :=
  if r.2 = true then ∃ q, v = .ref q ∧ ¬ av q ∧ Cl W H av q r.1 else Rp W H av r.1 v
def ObL (W : Wd) (H : Hp) (av : Av) : List Res → List V → Prop
  | [], vs => vs = []
  | r :: rs, vs => ∃ v ws, vs = v :: ws ∧ Ob W H av r v ∧ ObL W H av rs ws
def valsR : List OR → Option (List Res)
  | [] => some []
  | .v r :: rs => match valsR rs with
    | none => none
    | some ts => some (r :: ts)
  | .p _ :: _ => none
theorem Ob.rp {av : Av} {r : Res} (h : Ob W H av r v) : Rp W H av r.1 v := by
  unfold Ob at h
  split at h
  · obtain ⟨q, rfl, n, c⟩ := h; exact c.rp n
  · exact h
theorem OV.ob {r : Res} {H0 : Hp} {C0 C1 : Av} {A1 : Nat → Option Addr} (h : OV W H0 H1 C1 A1 r v) (up : ∀ a, C0 a → C1 a) (ctr : ∀ a, av C0 A1 a → ¬ Nw H0 a) : Ob W H1 (av C0 A1) r v := by
  unfold OV at h
  unfold Ob
  split at h
  · rename_i hb
    rw [if_pos hb]
    obtain ⟨p, rfl, n, _, c⟩ := h
    exact ⟨p, rfl, fun z => ctr p z n, c.move (fun _ z _ => z) fun l xs r => r.sub (av_sub up)⟩
  · rename_i hb
    rw [if_neg hb]
    exact h.sub (av_sub up)
theorem OVs.ob {H0 : Hp} {C0 C1 : Av} {A1 : Nat → Option Addr} (up : ∀ a, C0 a → C1 a) (ctr : ∀ a, av C0 A1 a → ¬ Nw H0 a) : ∀ {rs : List OR} {vs : List V} {ts : List Res}, OVs W σ H0 H1 C1 A1 rs vs → valsR rs = some ts → ObL W H1 (av C0 A1) ts vs
  | [], vs, ts, h, e => by simp only [valsR, Option.some.injEq] at e; subst e; exact h
  | .v r :: rs, vs, ts, h, e => by
    obtain ⟨v, ws, rfl, h1, h2⟩ := h
    unfold valsR at e
    cases hs : valsR rs with
    | none => rw [hs] at e; cases e
    | some ts' =>
      rw [hs] at e
      cases e
      exact ⟨v, ws, rfl, OV.ob h1 up ctr, h2.ob up ctr hs⟩
  | .p i :: rs, vs, ts, h, e => by cases e
/-- the cell p, holding t, is changed: what it holds then, and what comes back -/
def MutOk (W : Wd) (r : V → List V → Hp → VK → Prop) (g : T → List Res → Option (T × T)) : Prop :=
  ∀ (av : Av) p t ts vs H Q t' res, av p → Cl W H av p t → ObL W H av ts vs → g t ts = some (t', res) →
    (∀ v o', isMut o' = true → Cl W (upd H p o') av p t' → Rp W (upd H p o') av res v → Q v (upd H p o')) → r (.ref p) vs H Q
def ownM (ρ : Rho) (i : Nat) : Option (T × Own) := match rget ρ i with
  | some (t, .ow) => some (t, .ow)
  | some (t, .io) => some (t, .io)
  | _ => none
theorem ownM_inv (h : ownM ρ i = some (t, own)) : rget ρ i = some (t, own) ∧ own ≠ .fr := by
  unfold ownM at h
  split at h
  · rename_i h'; cases h; exact ⟨h', fun z => nomatch z⟩
  · rename_i h'; cases h; exact ⟨h', fun z => nomatch z⟩
  · cases h
theorem SR.owned (S : SR W P C Z A ρ σ H) (h : ownM ρ i = some (t, own)) : ∃ p, A i = some p ∧ σ[i]? = some (some (.ref p)) ∧ Cl W H (av C A) p t := by
  obtain ⟨hr, hn⟩ := ownM_inv h
  obtain ⟨v, e1, s⟩ := S.slots i t own hr
  cases own with
  | fr => exact absurd rfl hn
  | ow => obtain ⟨p, ep, rfl, c⟩ := s; exact ⟨p, ep, e1, c⟩
  | io => obtain ⟨p, ep, rfl, c⟩ := s; exact ⟨p, ep, e1, c⟩
theorem Cl.obj {av : Av} (c : Cl W H av p t) : ∃ o, H p = some o ∧ isMut o = true := by
  cases t <;> first | exact c.elim | skip
  · obtain ⟨xs, e, _⟩ := c; exact ⟨_, e, rfl⟩
  · obtain ⟨xs, e, _⟩ := c; exact ⟨_, e, rfl⟩
  · obtain ⟨xs, e, _⟩ := c; exact ⟨_, e, rfl⟩
  · obtain ⟨dx, xs, e, _⟩ := c; exact ⟨_, e, rfl⟩
def mutM (i : Nat) (os : List Op) (g : T → List Res → Option (T × T)) : M := fun ρ => match ownM ρ i with
  | none => none
  | some _ => match opsM os ρ with
    | none => none
    | some (rs, ρ1) => match valsR rs with
      | none => none
      | some ts => match ownM ρ1 i with
        | none => none
        | some (t, own) => match g t ts with
          | none => none
          | some (t', res) => some ((res, false), ρ1.set i (some (t', own)))
theorem mut_core {r : V → List V → Hp → VK → Prop} {g : T → List Res → Option (T × T)} {os : List Op} {Q : VK} (hp : MutOk W r g) (h : tOf W (mutM i os g) σ H Q) :
    ∃ p, σ[i]? = some (some (.ref p)) ∧ (∃ t av, Cl W H av p t) ∧ tOs W os σ H fun vs H1 => (∃ t av, Cl W H1 av p t ∧ ∃ ts res, g t ts = some res) ∧ r (.ref p) vs H1 Q := by
  obtain ⟨P, C, Z, A, ρ, rr, ρ', S, e, q⟩ := h
  unfold mutM at e
  split at e
  · cases e
  rename_i x0 hw0
  split at e
  · cases e
  rename_i rs ρ1 ho
  split at e
  · cases e
  rename_i ts hs
  split at e
  · cases e
  rename_i t own hw
  split at e
  · cases e
  rename_i t' res hg
  cases e
  obtain ⟨t0, own0⟩ := x0
  obtain ⟨p, ep0, es0, c0⟩ := S.owned hw0
  refine ⟨p, es0, ⟨_, _, c0⟩, ops_ok S ho fun vs H1 C1 A1 m o => ?_⟩
  have m0 := m.drop S
  obtain ⟨p', ep, es, c⟩ := m0.sr.owned hw
  rw [es0] at es
  cases es
  obtain ⟨hr, hn⟩ := ownM_inv hw
  refine ⟨⟨t, _, c, ts, _, hg⟩, ?_⟩
  refine hp (av C A1) p t ts vs H1 Q t' res (.inr ⟨i, ep⟩) c (o.ob m.up (m.ctr S) hs) hg fun v o' mo c' rv => ?_
  obtain ⟨o1, eo, mo1⟩ := c.obj
  have S2 := m0.sr.updA hr ep eo mo1 mo c'
  exact q v _ C A1 ⟨m.subA, fun _ z => z, fun _ z => .inl z, fun a z => nw_upd mo (m.dom a z), S2⟩ rv
/-- what type a cell's value has -/
def tyT : T → String
  | .lst _ => "list"
  | .dic .. => "dict"
  | .dit .. => "dict"
  | _ => ""
theorem Cl.ty {av : Av} (c : Cl W H av p t) (n : tyT t ≠ "") : tyV W.K (tyT t) (.ref p) H := by
  cases t <;> first | exact absurd rfl n | exact c.elim | skip
  · obtain ⟨xs, e, _⟩ := c; exact .inl ⟨rfl, _, .inl (.inl e)⟩
  · obtain ⟨xs, e, _⟩ := c; exact .inr (.inr (.inl ⟨rfl, .inl ⟨_, e⟩⟩))
  · obtain ⟨xs, e, _⟩ := c; exact .inr (.inr (.inl ⟨rfl, .inr ⟨_, e⟩⟩))
/-- x.m(..), x an owned local: T the type of all that g takes -/
def mutTM (T0 : String) (i : Nat) (os : List Op) (g : T → List Res → Option (T × T)) : M := fun ρ => match rget ρ i with
  | none => none
  | some (t, _) => if tyT t = T0 then mutM i os g ρ else none
theorem tyV_cl {av av' : Av} {t1 t2 : T} (c : Cl W H av p t1) (n : tyT t1 ≠ "") : tyV W.K (tyT t1) (.ref p) H := c.ty n
theorem mut_ok {T0 : String} {r : V → List V → Hp → VK → Prop} {g : T → List Res → Option (T × T)} {os : List Op} {Q : VK} (h0 : T0 ≠ "") (hp : MutOk W r g) (h : tOf W (mutTM T0 i os g) σ H Q) : tBM W.K T0 r (tVar i) (tOs W os) σ H Q := by
  obtain ⟨P, C, Z, A, ρ, rr, ρ', S, e, q⟩ := h
  unfold mutTM at e
  split at e
  · cases e
  rename_i t own hr
  split at e
  · rename_i ht
    have e0 := e
    unfold mutM at e0
    split at e0
    · cases e0
    rename_i x0 hw0
    obtain ⟨t0, own0⟩ := x0
    obtain ⟨hr0, _⟩ := ownM_inv hw0
    rw [hr] at hr0
    cases hr0
    obtain ⟨p0, _, es0, c0⟩ := S.owned hw0
    obtain ⟨p, es, _, hh⟩ := mut_core hp ⟨P, C, Z, A, ρ, rr, ρ', S, e, q⟩
    rw [es0] at es
    cases es
    refine ⟨.ref p0, es0, ?_, ?_⟩
    · rw [← ht]; exact c0.ty (by rw [ht]; exact h0)
    · exact ops_mono hh fun vs H1 z => z.2
  · cases e

/-! ### stores into an owned local's object -/
def tyOk (ty : T → Bool) (i : Nat) (m : M) : M := fun ρ => match rget ρ i with
  | some (t, _) => if ty t = true then m ρ else none
  | none => none
theorem tyOk_inv {ty : T → Bool} {m : M} {r : Res × Rho} (h : tyOk ty i m ρ = some r) : m ρ = some r := by
  unfold tyOk at h
  split at h
  · split at h
    · exact h
    · cases h
  · cases h
/-- o[k] = e: e ahead of k -/
theorem setItem_ok {set : TSet} {g : T → List Res → Option (T × T)} {e k : Op} {D : Ends} (hp : MutOk W (fun o vs H Q => ∃ x ix, vs = [x, ix] ∧ set o ix x H fun H' => Q .non H') g) (hm : ∀ o ix x H (Q Q' : Hp → Prop), set o ix x H Q → (∀ H, Q H → Q' H) → set o ix x H Q')
    (h : tSf W (dropM (mutM i [e, k] g)) D σ H) : tAsg (tO W e) (gSub (tVar i) (tO W k) set) D σ H := by
  obtain ⟨p, es, _, hh⟩ := mut_core hp (drop_ok h)
  have hh' : tO W e σ H fun x H1 => tO W k σ H1 fun y H2 => (∃ t av, Cl W H2 av p t ∧ ∃ ts res, g t ts = some res) ∧ ∃ x' ix, [x, y] = [x', ix] ∧ set (.ref p) ix x' H2 fun H' => D.nx σ H' := hh
  have mono : ∀ {o : Op} {H : Hp} {Q Q' : VK}, tO W o σ H Q → (∀ v H, Q v H → Q' v H) → tO W o σ H Q' := fun {o H Q Q'} a b => by
    cases o with
    | val f => exact tOf_mono a b
    | pk j => obtain ⟨v, ev, z⟩ := a; exact ⟨v, ev, b _ _ z⟩
  refine mono hh' fun x H1 z => ⟨_, es, mono z fun y H2 ⟨_, x', ix, ee, w⟩ => ?_⟩
  cases ee
  exact w
/-- d[k] = e, a dict -/
theorem dput_ok {g : T → List Res → Option (T × T)} {e k : Op} {D : Ends} (hp : MutOk W (fun o vs H Q => ∃ x y a H', vs = [x, y] ∧ o = .ref a ∧ DPut H a y x H' ∧ Q .non H') g)
    (h : tSf W (dropM (mutM i [e, k] g)) D σ H) : sDPut (tVar i) (tO W k) (tO W e) D σ H := by
  obtain ⟨p, es, _, hh⟩ := mut_core hp (drop_ok h)
  have hh' : tO W e σ H fun x H1 => tO W k σ H1 fun y H2 => (∃ t av, Cl W H2 av p t ∧ ∃ ts res, g t ts = some res) ∧ ∃ x' y' a H', [x, y] = [x', y'] ∧ V.ref p = .ref a ∧ DPut H2 a y' x' H' ∧ D.nx σ H' := hh
  have mono : ∀ {o : Op} {H : Hp} {Q Q' : VK}, tO W o σ H Q → (∀ v H, Q v H → Q' v H) → tO W o σ H Q' := fun {o H Q Q'} a b => by
    cases o with
    | val f => exact tOf_mono a b
    | pk j => obtain ⟨v, ev, z⟩ := a; exact ⟨v, ev, b _ _ z⟩
  refine mono hh' fun x H1 z => ⟨_, es, mono z fun y H2 ⟨_, x', y', a, H', ee, er, w, q⟩ => ?_⟩
  cases ee
  cases er
  exact ⟨_, H', rfl, w, q⟩
/-- o.f = e, o an owned local's instance -/
theorem setAttr_ok {f : Str} {g : T → List Res → Option (T × T)} {e : Op} {D : Ends} (hp : MutOk W (fun o vs H Q => ∃ y a C dx fs, vs = [y] ∧ o = .ref a ∧ H a = some (.ins C dx fs) ∧ Cls W.K C ∧ NoAttr W.K C f ∧ fs.length < 1000 ∧ Q .non (upd H a (.ins C dx (putF f y fs)))) g)
    (h : tSf W (dropM (mutM i [e] g)) D σ H) : sFld W.K (tVar i) (tO W e) f D σ H := by
  obtain ⟨p, es, _, hh⟩ := mut_core hp (drop_ok h)
  have hh' : tO W e σ H fun y H2 => (∃ t av, Cl W H2 av p t ∧ ∃ ts res, g t ts = some res) ∧ ∃ y' a C dx fs, [y] = [y'] ∧ V.ref p = .ref a ∧ H2 a = some (.ins C dx fs) ∧ Cls W.K C ∧ NoAttr W.K C f ∧ fs.length < 1000 ∧ D.nx σ (upd H2 a (.ins C dx (putF f y' fs))) := hh
  have mono : ∀ {o : Op} {H : Hp} {Q Q' : VK}, tO W o σ H Q → (∀ v H, Q v H → Q' v H) → tO W o σ H Q' := fun {o H Q Q'} a b => by
    cases o with
    | val f => exact tOf_mono a b
    | pk j => obtain ⟨v, ev, z⟩ := a; exact ⟨v, ev, b _ _ z⟩
  refine mono hh' fun y H2 ⟨_, y', a, C, dx, fs, ee, er, w⟩ => ?_
  cases ee
  cases er
  exact ⟨_, es, p, C, dx, fs, rfl, w⟩

/-! ### defs -/
/-- what a def promises: by value, its result from its arguments -/
def spF (W : Wd) (g : List T → Option Res) : Sp := fun vs H Q _ => ∃ (av : Av) (ts : List T) (r : Res), RpL W H av ts vs ∧ (∀ a, av a → ¬ Nw H a) ∧ NdefX.TabsN W.tb H ∧ g ts = some r ∧ ∀ v H', RPost W H av H' r v → Q v H'
theorem spF_store {g : List T → Option Res} {E : XK} : StoreOk W (fun vs H Q => spF W g vs H Q E) g := fun av ts vs H Q res r e tb tr q => ⟨av, ts, res, r, tr, tb, e, q⟩
/-- behind a def that changes the object p -/
structure IPost (W : Wd) (H : Hp) (av : Av) (p : Addr) (H' : Hp) (r : Res) (t' : T) (v : V) : Prop where
  keep : ∀ a u, a ≠ p → H a = some u → isTbl u = false → H' a = some u
  tabs : NdefX.TabsN W.tb H'
  fr : r.2 = false → Rp W H' (Cadd av p) r.1 v ∧ Cl W H' (Cadd av p) p t'
  ow : r.2 = true → ∃ q, v = .ref q ∧ q ≠ p ∧ Nw H q ∧ Cl W H' (Cadd (Cadd av p) q) q r.1 ∧ Cl W H' (Cadd (Cadd av p) q) p t'
def spI (W : Wd) (g : T → List T → Option (Res × T)) : Sp := fun vs H Q _ => ∃ (av : Av) (p : Addr) (ws : List V) (t : T) (ts : List T) (r : Res) (t' : T), vs = .ref p :: ws ∧ ¬ av p ∧ Cl W H (Cadd av p) p t ∧ RpL W H (Cadd av p) ts ws ∧ (∀ a, av a → ¬ Nw H a) ∧ NdefX.TabsN W.tb H ∧
  g t ts = some (r, t') ∧ ∀ v H', IPost W H av p H' r t' v → Q v H'
def start0 (n : Nat) (ts : List T) : Rho := ts.map (fun t => some (t, .fr)) ++ List.replicate (n - ts.length) none
def startI (n : Nat) (t : T) (ts : List T) : Rho := some (t, .io) :: (ts.map (fun t => some (t, .fr)) ++ List.replicate (n - ts.length - 1) none)
/-- what a body gives back -/
def outR : Option (Out × Rho) → Option Res
  | some (.rt r, _) => some r
  | some (.nx, _) => some (.non, false)
  | _ => none
def outI : Option (Out × Rho) → Option (Res × T)
  | some (.rt r, ρ) => match rget ρ 0 with
    | some (t, .io) => some (r, t)
    | _ => none
  | some (.nx, ρ) => match rget ρ 0 with
    | some (t, .io) => some ((.non, false), t)
    | _ => none
  | _ => none
theorem rget_start {n : Nat} {ts : List T} {x : T × Own} (h : rget (start0 n ts) i = some x) : x.2 = .fr ∧ ts[i]? = some x.1 := by
  unfold rget start0 at h
  rw [List.getD_eq_getElem?_getD] at h
  by_cases hi : i < ts.length
  · rw [List.getElem?_append_left (by simpa using hi), List.getElem?_map, List.getElem?_eq_getElem hi] at h
    have h : some (ts[i], Own.fr) = some x := h
    cases h
    exact ⟨rfl, List.getElem?_eq_getElem hi⟩
  · rw [List.getElem?_append_right (by simpa using hi), List.getElem?_replicate] at h
    split at h <;> cases h
theorem start_get {n : Nat} {N : List Str} {vs : List V} (h : vs[i]? = some v) : (L2.start N vs)[i]? = some (some v) := by
  unfold L2.start
  have hi := (List.getElem?_eq_some_iff.mp h).1
  rw [List.getElem?_append_left (by simpa using hi), List.getElem?_map, h]
  rfl
theorem Pf_none {A : Nat → Option Addr} {a : Addr} (h : Pf H A a = none) (d : ∀ i, A i ≠ some a) : Nw H a := fun o e => by
  cases q : isTbl o with
  | true => rfl
  | false => rw [Pf_some e q d] at h; cases h
theorem sr_start {N : List Str} {vs : List V} {ts : List T} {C : Av} (hn : ts.length ≤ N.length) (r : RpL W H C ts vs) (ctr : ∀ a, C a → ¬ Nw H a) (tb : NdefX.TabsN W.tb H) : SR W (Pf H fun _ => none) C none (fun _ => none) (start0 N.length ts) (L2.start N vs) H where
  slots := fun i t o e => by
    obtain ⟨e1, e2⟩ := rget_start e
    have e1 : o = .fr := e1
    have e2 : ts[i]? = some t := e2
    subst e1
    obtain ⟨v, e3, rv⟩ := r.get e2
    exact ⟨v, start_get (n := 0) e3, rfl, rv.sub fun a z => z.elim id fun ⟨_, z⟩ => nomatch z⟩
  sup := fun i p e => nomatch e
  inj := fun i j p e => nomatch e
  dis := fun i p e => nomatch e
  ctr := ctr
  keep := fun a o e => (of_Pf e).1
  pnt := fun a o e => (of_Pf e).2.1
  prot := fun i p e => nomatch e
  io := fun q e => nomatch e
  tabs := tb
  len := by
    have := r.length
    unfold start0 L2.start
    simp only [List.length_append, List.length_map, List.length_replicate]
    omega
theorem body_ok {N : List Str} {g : List T → Option Res} {f : SM} {vs : List V} {Q : VK} {E : XK} (hl : ∀ ts r, g ts = some r → ts.length ≤ N.length ∧ outR (f (start0 N.length ts)) = some r) (h : spF W g vs H Q E) :
    tSf W f { nx := fun _ H' => Q .non H', rt := Q } (L2.start N vs) H := by
  obtain ⟨av0, ts, r, rl, ctr, tb, e, q⟩ := h
  obtain ⟨hn, ho⟩ := hl ts r e
  have S := sr_start hn rl ctr tb
  have fin : ∀ {r : Res} {v : V} {H' : Hp} {C' : Av} {A' : Nat → Option Addr} {ρ' : Rho} {σ' : St}, (∀ a, av0 a → C' a) → SR W (Pf H fun _ => none) C' none A' ρ' σ' H' → RVl W (Pf H fun _ => none) C' A' H' r v → RPost W H av0 H' r v := fun {r v H' C' A' ρ' σ'} up S' rv => by
    refine ⟨fun a o e n => S'.keep a o (Pf_some e n fun i => fun z => nomatch z), S'.tabs, fun hb => ?_, fun hb => ?_⟩
    · unfold RVl at rv
      rw [if_neg (by rw [hb]; exact Bool.false_ne_true)] at rv
      exact rv.sub fun a z => .inl (up a z)
    · unfold RVl at rv
      rw [if_pos hb] at rv
      obtain ⟨p, e, n, c, cl⟩ := rv
      exact ⟨p, e, Pf_none n (fun i z => nomatch z), cl.move (fun _ z _ => z) fun l xs r => r.sub fun a z => z.elim (fun z => .inl (up a z)) fun z => .inl (z ▸ c)⟩
  cases hf : f (start0 N.length ts) with
  | none => rw [hf] at ho; cases ho
  | some x =>
    obtain ⟨out, ρ'⟩ := x
    rw [hf] at ho
    refine ⟨_, _, _, _, _, out, ρ', S, hf, ?_⟩
    cases out with
    | nx =>
      cases ho
      intro σ' H' A' S'
      refine q .non H' (fin (r := (.non, false)) (C' := av0) (A' := A') (fun _ z => z) S' ?_)
      show Rp W H' (av av0 A') T.non .non
      simp only [Rp]
    | rt r' =>
      cases ho
      exact fun v σ' H' C' A' up S' rv => q v H' (fin up S' rv)
    | bk => cases ho
    | ct => cases ho
def Az (p : Addr) : Nat → Option Addr := fun j => if j = 0 then some p else none
theorem Az_some {j : Nat} {q : Addr} (h : Az p j = some q) : j = 0 ∧ q = p := by
  unfold Az at h
  split at h
  · cases h; exact ⟨by assumption, rfl⟩
  · cases h
theorem body_okI {N : List Str} {g : T → List T → Option (Res × T)} {f : SM} {vs : List V} {Q : VK} {E : XK} (hl : ∀ t ts r, g t ts = some r → ts.length + 1 ≤ N.length ∧ outI (f (startI N.length t ts)) = some r) (h : spI W g vs H Q E) :
    tSf W f { nx := fun _ H' => Q .non H', rt := Q } (L2.start N vs) H := by
  obtain ⟨av0, p, ws, t, ts, r, t', rfl, np, c, rl, ctr, tb, e, q⟩ := h
  obtain ⟨hn, ho⟩ := hl t ts _ e
  have hA : ∀ a, av av0 (Az p) a → Cadd av0 p a := fun a z => z.elim .inl fun ⟨j, z⟩ => .inr (Az_some z).2
  have S : SR W (Pf H (Az p)) av0 (some p) (Az p) (startI N.length t ts) (L2.start N (.ref p :: ws)) H := {
    slots := fun i t1 o1 e1 => by
      cases i with
      | zero =>
        cases e1
        refine ⟨.ref p, start_get (n := 0) rfl, p, rfl, rfl, c.move (fun _ z _ => z) fun l xs r => r.sub hA⟩
      | succ j =>
        have e2 : rget (start0 (N.length - 1) ts) j = some (t1, o1) := by
          have : startI N.length t ts = some (t, .io) :: start0 (N.length - 1) ts := by
            unfold startI start0
            rw [show N.length - ts.length - 1 = N.length - 1 - ts.length by omega]
          rw [this] at e1
          exact e1
        obtain ⟨e3, e4⟩ := rget_start e2
        have e3 : o1 = .fr := e3
        have e4 : ts[j]? = some t1 := e4
        subst e3
        obtain ⟨v, e5, rv⟩ := rl.get e4
        exact ⟨v, start_get (n := 0) (by simpa using e5), rfl, rv.sub hA⟩
    sup := fun i q e => by
      obtain ⟨rfl, rfl⟩ := Az_some e
      exact ⟨t, .io, rfl, fun z => nomatch z⟩
    inj := fun i j q e e' => (Az_some e).1.trans (Az_some e').1.symm
    dis := fun i q e z => np ((Az_some e).2 ▸ z)
    ctr := ctr
    keep := fun a o e => (of_Pf e).1
    pnt := fun a o e => (of_Pf e).2.1
    prot := fun i q e => by
      cases z : Pf H (Az p) q with
      | none => rfl
      | some o => exact absurd e ((of_Pf z).2.2 i)
    io := fun q e => by cases e; exact ⟨rfl, t, rfl⟩
    tabs := tb
    len := by
      have := rl.length
      unfold startI L2.start
      simp only [List.length_append, List.length_map, List.length_replicate, List.length_cons]
      omega }
  have fin : ∀ {r : Res} {t' : T} {v : V} {H' : Hp} {C' : Av} {A' : Nat → Option Addr} {ρ' : Rho} {σ' : St}, (∀ a, av0 a → C' a) → SR W (Pf H (Az p)) C' (some p) A' ρ' σ' H' → rget ρ' 0 = some (t', .io) → RVl W (Pf H (Az p)) C' A' H' r v → IPost W H av0 p H' r t' v := fun {r t' v H' C' A' ρ' σ'} up S' hr rv => by
    obtain ⟨hA0, _⟩ := S'.io p rfl
    obtain ⟨v0, _, s0⟩ := S'.slots 0 t' .io hr
    rw [hA0] at s0
    obtain ⟨_, c0⟩ := s0.cell
    have hp : ∀ a, Cadd av0 p a → av C' A' a := fun a z => z.elim (fun z => .inl (up a z)) fun z => .inr ⟨0, z ▸ hA0⟩
    refine ⟨fun a u n e t => S'.keep a u (Pf_some e t (fun i z => n (Az_some z).2)), S'.tabs, fun hb => ?_, fun hb => ?_⟩
    · unfold RVl at rv
      rw [if_neg (by rw [hb]; exact Bool.false_ne_true)] at rv
      exact ⟨rv.sub hp, c0.move (fun _ z _ => z) fun l xs r => r.sub hp⟩
    · unfold RVl at rv
      rw [if_pos hb] at rv
      obtain ⟨q, e, n, cq, cl⟩ := rv
      have hq : ∀ a, Cadd (Cadd av0 p) q a → av C' A' a := fun a z => z.elim (hp a) fun z => .inl (z ▸ cq)
      have nqp : q ≠ p := fun z => S'.dis 0 p hA0 (z ▸ cq)
      refine ⟨q, e, nqp, Pf_none n (fun i z => nqp (Az_some z).2), cl.move (fun _ z _ => z) (fun l xs r => r.sub hq), c0.move (fun _ z _ => z) fun l xs r => r.sub hq⟩
  cases hf : f (startI N.length t ts) with
  | none => rw [hf] at ho; cases ho
  | some x =>
    obtain ⟨out, ρ'⟩ := x
    rw [hf] at ho
    refine ⟨_, _, _, _, _, out, ρ', S, hf, ?_⟩
    cases out with
    | nx =>
      simp only [outI] at ho
      split at ho
      · rename_i hr
        cases ho
        intro σ' H' A' S'
        refine q .non H' (fin (C' := av0) (A' := A') (fun _ z => z) S' hr ?_)
        show Rp W H' (av av0 A') T.non .non
        simp only [Rp]
      · cases ho
    | rt r' =>
      simp only [outI] at ho
      split at ho
      · rename_i hr
        cases ho
        exact fun v σ' H' C' A' up S' rv => q v H' (fin up S' hr rv)
      · cases ho
    | bk => cases ho
    | ct => cases ho

/-! ### calls of defs that change an owned local's object -/
def callIM (i : Nat) (os : List Op) (g : T → List T → Option (Res × T)) : M := fun ρ => match opsM (.pk i :: os) ρ with
  | some (.p _ :: rs, ρ1) => (match vals rs with
    | none => none
    | some ts => match ownM ρ1 i with
      | none => none
      | some (t, own) => match g t ts with
        | none => none
        | some (r, t') => some (r, ρ1.set i (some (t', own))))
  | _ => none
theorem callI_ok {g : T → List T → Option (Res × T)} {os : List Op} {Q : VK} {E : XK} (h : tOf W (callIM i os g) σ H Q) : tOs W (.pk i :: os) σ H fun vs H1 => spI W g vs H1 Q E := by
  obtain ⟨P, C, Z, A, ρ, rr, ρ', S, e, q⟩ := h
  unfold callIM at e
  split at e
  · rename_i j rs ρ1 ho
    split at e
    · cases e
    rename_i ts hs
    split at e
    · cases e
    rename_i t own hw
    split at e
    · cases e
    rename_i r t' hg
    cases e
    have hj : j = i := by
      unfold opsM at ho
      split at ho
      · cases ho
      · split at ho
        · cases ho
        · cases ho; rfl
    subst hj
    refine ops_ok S ho fun vs H1 C1 A1 m o => ?_
    obtain ⟨v0, ws, rfl, e0, o⟩ := o
    have m0 := m.drop S
    obtain ⟨p, ep, es, c⟩ := m0.sr.owned hw
    obtain ⟨hr, hn⟩ := ownM_inv hw
    have e0 : σ[j]? = some (some v0) := e0
    rw [es] at e0
    cases e0
    have rl := o.rp m.up (m.ctr S) hs
    have sub : ∀ a, Cadd (fun a => av C A1 a ∧ a ≠ p) p a → av C A1 a := fun a z => z.elim (fun z => z.1) fun z => .inr ⟨j, z ▸ ep⟩
    have sup : ∀ a, av C A1 a → Cadd (fun a => av C A1 a ∧ a ≠ p) p a := fun a z => by
      by_cases h : a = p
      · exact .inr h
      · exact .inl ⟨z, h⟩
    refine ⟨fun a => av C A1 a ∧ a ≠ p, p, ws, t, ts, rr, t', rfl, fun z => z.2 rfl, c.move (fun _ z _ => z) fun l xs r => r.sub sub, rl.sub sub, fun a z => m0.sr.avtr a z.1, m0.sr.tabs, hg, fun v H2 ip => ?_⟩
    have ctr0 : ∀ a, C a → ¬ Nw H2 a := fun a z n => m0.sr.ctr a z fun u e => by
      cases w : isTbl u with
      | true => rfl
      | false =>
        have := n u (ip.keep a u (fun x => m0.sr.dis j p ep (x ▸ z)) e w)
        rw [w] at this; cases this
    have dom : ∀ a, ¬ Nw H1 a → a ≠ p → ¬ Nw H2 a := fun a z np n => z fun u e => by
      cases w : isTbl u with
      | true => rfl
      | false =>
        have := n u (ip.keep a u np e w)
        rw [w] at this; cases this
    cases hb : rr.2 with
    | false =>
      obtain ⟨rv, cv⟩ := ip.fr hb
      have cv' : Cl W H2 (av C A1) p t' := cv.move (fun _ z _ => z) fun l xs r => r.sub sup
      have S2 := m0.sr.change (C' := C) hr ep (fun _ z => z) (fun _ z => .inl z) ctr0 ip.keep ip.tabs cv'
      have dp : ¬ Nw H2 p := by obtain ⟨u, e, n⟩ := cv.there; exact fun z => by rw [z u e] at n; cases n
      refine q v H2 C A1 ⟨m.subA, fun _ z => z, fun _ z => .inl z, fun a z => ?_, S2⟩ ?_
      · by_cases x : a = p
        · rw [x]; exact dp
        · exact dom a (m.dom a z) x
      · unfold OV
        rw [if_neg (by rw [hb]; exact Bool.false_ne_true)]
        exact rv.sub sup
    | true =>
      obtain ⟨x, ev, nx, nw, cx, cv⟩ := ip.ow hb
      have sup2 : ∀ a, av (Cadd C x) A1 a → Cadd (Cadd (fun a => av C A1 a ∧ a ≠ p) p) x a := fun a z => z.elim (fun z => z.elim (fun z => .inl (sup a (.inl z))) .inr) fun z => .inl (sup a (.inr z))
      have cv' : Cl W H2 (av (Cadd C x) A1) p t' := cv.move (fun _ z _ => z) fun l xs r => r.sub sup2
      have dx : ¬ Nw H2 x := by obtain ⟨u, e, n⟩ := cx.there; exact fun z => by rw [z u e] at n; cases n
      have dp : ¬ Nw H2 p := by obtain ⟨u, e, n⟩ := cv.there; exact fun z => by rw [z u e] at n; cases n
      have S2 := m0.sr.change (C' := Cadd C x) hr ep (fun _ z => .inl z) (fun a z => z.elim .inl fun z => .inr (z ▸ nw)) (fun a z => z.elim (ctr0 a) fun z => z ▸ dx) ip.keep ip.tabs cv'
      have nwH : Nw H x := Classical.byContradiction fun w => m.dom x w nw
      refine q v H2 (Cadd C x) A1 ⟨m.subA, fun _ z => .inl z, fun a z => z.elim .inl fun z => .inr (z ▸ nwH), fun a z => ?_, S2⟩ ?_
      · by_cases x : a = p
        · rw [x]; exact dp
        · exact dom a (m.dom a z) x
      · unfold OV
        rw [if_pos hb]
        exact ⟨x, ev, nwH, .inr rfl, cx.move (fun _ z _ => z) fun l xs r => r.sub sup2⟩
  · cases e
/-- an outer cell to be avoided has been changed -/
theorem SR.changeC (S : SR W P C Z A ρ σ H) (hC : C p) (hP : P p = none) (k : ∀ a u, a ≠ p → H a = some u → isTbl u = false → H' a = some u) (tb : NdefX.TabsN W.tb H') (dp : ¬ Nw H' p) : SR W P C Z A ρ σ H' where
  slots := fun j t o e => by
    obtain ⟨v, e1, s⟩ := S.slots j t o e
    refine ⟨v, e1, ?_⟩
    have mvL : ∀ l xs, RpL W H (av C A) l xs → RpL W H' (av C A) l xs := fun l xs r => r.move (fun _ z => z) (fun a u n e q => k a u (fun z => n (.inl (z ▸ hC))) e q) l xs
    cases o with
    | fr => exact ⟨s.1, s.2.move (fun _ z => z) (fun a u n e q => k a u (fun z => n (.inl (z ▸ hC))) e q) _ _⟩
    | ow => obtain ⟨q, e, e', c⟩ := s; exact ⟨q, e, e', c.move (fun u z n => k q u (fun w => S.dis j q e (w ▸ hC)) z n) mvL⟩
    | io => obtain ⟨q, e, e', c⟩ := s; exact ⟨q, e, e', c.move (fun u z n => k q u (fun w => S.dis j q e (w ▸ hC)) z n) mvL⟩
  sup := S.sup
  inj := S.inj
  dis := S.dis
  ctr := fun a z n => by
    by_cases e : a = p
    · subst e; exact dp n
    · exact S.ctr a z fun u h => by
        cases w : isTbl u with
        | true => rfl
        | false =>
          have := n u (k a u e h w)
          rw [w] at this; cases this
  keep := fun a u e => by
    have hn : a ≠ p := fun z => by subst z; rw [hP] at e; cases e
    exact k a u hn (S.keep a u e) (S.pnt a u e)
  pnt := S.pnt
  prot := S.prot
  io := S.io
  tabs := tb
  len := S.len
def valsF : List OR → Option (List T)
  | [] => some []
  | .v (t, false) :: rs => match valsF rs with
    | none => none
    | some ts => some (t :: ts)
  | _ => none
theorem OVs.rpF {H0 : Hp} {C1 : Av} {A1 : Nat → Option Addr} : ∀ {rs : List OR} {vs : List V} {ts : List T}, OVs W σ H0 H1 C1 A1 rs vs → valsF rs = some ts → RpL W H1 (av C1 A1) ts vs
  | [], vs, ts, h, e => by simp only [valsF, Option.some.injEq] at e; subst e; have h' : vs = [] := h; subst h'; exact RpL.nil
  | .v (t, false) :: rs, vs, ts, h, e => by
    obtain ⟨v, ws, rfl, h1, h2⟩ := h
    unfold valsF at e
    cases hs : valsF rs with
    | none => rw [hs] at e; cases e
    | some ts' =>
      rw [hs] at e
      cases e
      exact RpL.cons h1 (h2.rpF hs)
  | .v (_, true) :: rs, vs, ts, h, e => by cases e
  | .p i :: rs, vs, ts, h, e => by cases e
/-- .. that get a fresh object, which is not asked for again -/
def callTM (os : List Op) (g : T → List T → Option (Res × T)) : M := fun ρ => match opsM os ρ with
  | some (.v (t, true) :: rs, ρ1) => (match valsF rs with
    | none => none
    | some ts => match g t ts with
      | some ((r, false), _) => some ((r, false), ρ1)
      | _ => none)
  | _ => none
theorem callT_ok {g : T → List T → Option (Res × T)} {os : List Op} {Q : VK} {E : XK} (h : tOf W (callTM os g) σ H Q) : tOs W os σ H fun vs H1 => spI W g vs H1 Q E := by
  obtain ⟨P, C, Z, A, ρ, rr, ρ', S, e, q⟩ := h
  unfold callTM at e
  split at e
  · rename_i t rs ρ1 ho
    split at e
    · cases e
    rename_i ts hs
    split at e
    · rename_i r t' hg
      cases e
      refine ops_ok S ho fun vs H1 C1 A1 m o => ?_
      obtain ⟨v0, ws, rfl, o0, o⟩ := o
      have o0 : OV W H H1 C1 A1 (t, true) v0 := o0
      unfold OV at o0
      rw [if_pos rfl] at o0
      obtain ⟨p, rfl, nw, cp, c⟩ := o0
      have rl := o.rpF hs
      have hsub : ∀ a, av (Cadd C p) A1 a → av C1 A1 a := av_sub fun a z => z.elim (m.up a) fun z => z ▸ cp
      have eqv : ∀ a, Cadd (av C A1) p a → av (Cadd C p) A1 a := fun a z => z.elim (fun z => z.elim (fun z => .inl (.inl z)) .inr) fun z => .inl (.inr z)
      have eqv' : ∀ a, av C A1 a → Cadd (av C A1) p a := fun a z => .inl z
      have np : ¬ av C A1 p := fun z => m.ctr S p z nw
      have m0 := m.drop S
      have S1 : SR W P (Cadd C p) Z A1 ρ' σ H1 := m.sr.subC fun a z => z.elim (m.up a) fun z => z ▸ cp
      refine ⟨av C A1, p, ws, t, ts, (r, false), t', rfl, np, c.move (fun _ z _ => z) (fun l xs r => r.sub fun a z => hsub a (eqv a z)), rl.sub (fun a z => hsub a (eqv a z)), m0.sr.avtr, m0.sr.tabs, hg, fun v H2 ip => ?_⟩
      obtain ⟨rv, cv⟩ := ip.fr rfl
      have dp : ¬ Nw H2 p := by obtain ⟨u, e, n⟩ := cv.there; exact fun z => by rw [z u e] at n; cases n
      have S2 := (S1.changeC (.inr rfl) (S.pnone nw) ip.keep ip.tabs dp).subC (C := C) fun a z => .inl z
      refine q v H2 C A1 ⟨m.subA, fun _ z => z, fun _ z => .inl z, fun a z n => ?_, S2⟩ ?_
      · by_cases x : a = p
        · exact dp (x ▸ n)
        · exact m.dom a z fun u e => by
            cases w : isTbl u with
            | true => rfl
            | false =>
              have := n u (ip.keep a u x e w)
              rw [w] at this; cases this
      · show Rp W H2 (av C A1) r v
        exact rv.sub eqv'
    · cases e
  · cases e
end
end Rv
end

section
set_option Elab.async false
set_option autoImplicit false
set_option linter.all false
set_option maxRecDepth 100000
set_option maxHeartbeats 1000000
/-! Rv7: built-in operations by value. -/
namespace Rv
open PySem PySem.Spec L2
open PyProof.Rows hiding St
open Classical

section
variable {W : Wd} {H H' : Hp} {av : Av} {t : T} {ts : List T} {v : V} {vs xs : List V} {a p : Addr} {K : PySem.W.Frag}
theorem RtL.one (h : RtL W H av [t] vs) : ∃ v, vs = [v] ∧ Rt W H av t v := by
  obtain ⟨v, ws, rfl, h1, h2⟩ := h
  have h2 : ws = [] := h2
  subst h2
  exact ⟨v, rfl, h1⟩
theorem RtL.two {t2 : T} (h : RtL W H av [t, t2] vs) : ∃ v w, vs = [v, w] ∧ Rt W H av t v ∧ Rt W H av t2 w := by
  obtain ⟨v, ws, rfl, h1, h2⟩ := h
  obtain ⟨w, rfl, h3⟩ := RtL.one h2
  exact ⟨v, w, rfl, h1, h3⟩
theorem RtL.three {t2 t3 : T} (h : RtL W H av [t, t2, t3] vs) : ∃ v w x, vs = [v, w, x] ∧ Rt W H av t v ∧ Rt W H av t2 w ∧ Rt W H av t3 x := by
  obtain ⟨v, ws, rfl, h1, h2⟩ := h
  obtain ⟨w, x, rfl, h3, h4⟩ := RtL.two h2
  exact ⟨v, w, x, rfl, h1, h3, h4⟩
theorem rt_int {i : Int} (h : Rt W H av (.int i) v) : v = .int i := by simpa only [Rt, Rp] using h
theorem rt_bl {b : Bool} (h : Rt W H av (.bl b) v) : v = .bl b := by simpa only [Rt, Rp] using h
theorem rt_non (h : Rt W H av .non v) : v = .non := by simpa only [Rt, Rp] using h
theorem rt_str {x : Str} (h : Rt W H av (.str x) v) : v = .str x ∧ sOk x = true := by simpa only [Rt, Rp] using h
theorem rt_tup {k : Bool} {l : List T} (h : Rt W H av (.tup k l) v) : ∃ a xs, v = .ref a ∧ SqTa W.K H av k a xs ∧ RpL W H av l xs := by simpa only [Rt, Rp] using h
theorem rt_frl {l : List T} (h : Rt W H av (.frl l) v) : ∃ a xs, v = .ref a ∧ SqLa W.K H av a xs ∧ RpL W H av l xs := by simpa only [Rt, Rp] using h
theorem sOk_len {x : Str} (h : sOk x = true) : x.length ≤ sizeLine := by
  unfold sOk at h
  rw [sizeLine_eq]
  simp only [Bool.and_eq_true, decide_eq_true_eq] at h
  exact h.2
theorem RPost.same (tb : NdefX.TabsN W.tb H) (h : Rp W H av t v) : RPost W H av H (t, false) v := ⟨.refl H, tb, fun _ => h, fun z => nomatch z⟩
theorem RPost.int (tb : NdefX.TabsN W.tb H) {i : Int} : RPost W H av H (.int i, false) (.int i) := .same tb (by simp only [Rp])
theorem RPost.bl (tb : NdefX.TabsN W.tb H) {b : Bool} : RPost W H av H (.bl b, false) (.bl b) := .same tb (by simp only [Rp])
theorem RPost.str (tb : NdefX.TabsN W.tb H) {x : Str} (h : sOk x = true) : RPost W H av H (.str x, false) (.str x) := .same tb (by simp only [Rp, true_and]; exact h)
theorem tabs_new {T0 : List NdefX.NTab} {o : HO} (n : H p = none) (tb : NdefX.TabsN T0 H) : NdefX.TabsN T0 (upd H p o) := tb.ext fun b u e => by rw [upd_ne (ne_of_none e n)]; exact e
theorem RPost.tup (tr : ∀ a, av a → ¬ Nw H a) (tb : NdefX.TabsN W.tb H) (n : H p = none) (r : RpL W H av ts xs) : RPost W H av (upd H p (.tup xs)) (.tup false ts, false) (.ref p) :=
  ⟨ExtN.upd n, tabs_new n tb, fun _ => by
    simp only [Rp]
    exact ⟨p, xs, rfl, .inl ⟨fun z => tr p z (.of n), .inl ⟨rfl, upd_same⟩⟩, r.ext (ExtN.upd n)⟩, fun z => nomatch z⟩
theorem RPost.lst (tb : NdefX.TabsN W.tb H) (n : H p = none) (r : RpL W H av ts xs) : RPost W H av (upd H p (.lst xs)) (.lst ts, true) (.ref p) :=
  ⟨ExtN.upd n, tabs_new n tb, (fun z => nomatch z), fun _ => ⟨p, rfl, .of n, xs, upd_same, (r.avoid (av' := Cadd av p) (fun a z => z.elim .inl fun z => .inr (z ▸ .of n)) _ _).ext (ExtN.upd n)⟩⟩

/-! ### len -/
def gLen : List T → Option Res
  | [.lst l] => some (.int l.length, false)
  | [.frl l] => some (.int l.length, false)
  | [.tup _ l] => some (.int l.length, false)
  | [.str x] => some (.int x.length, false)
  | [.dic ks _] => some (.int ks.length, false)
  | [.dit ks _] => some (.int ks.length, false)
  | _ => none
def rLenA (K : PySem.W.Frag) : List V → Hp → VK → Prop := fun xs H Q => (∃ x n, xs = [x] ∧ LenV K x H n ∧ Q (.int n) H) ∨ (∃ a kvs, xs = [V.ref a] ∧ H a = some (.dK kvs) ∧ Q (.int kvs.length) H) ∨ rLenT xs H Q
theorem p_len : PrimOk W (rLenA W.K) gLen := by
  intro av ts vs H Q res rt e tb tr q
  unfold gLen at e
  split at e
  · cases e
    obtain ⟨v, rfl, a, xs, rfl, s, r⟩ := rt.one
    exact .inl ⟨_, xs.length, rfl, .inl ⟨xs, .inl (.inl s), rfl⟩, by rw [r.length]; exact q _ _ (.int tb)⟩
  · cases e
    obtain ⟨v, rfl, h⟩ := rt.one
    obtain ⟨a, xs, rfl, s, r⟩ := rt_frl h
    exact .inl ⟨_, xs.length, rfl, .inl ⟨xs, s.sq, rfl⟩, by rw [r.length]; exact q _ _ (.int tb)⟩
  · cases e
    obtain ⟨v, rfl, h⟩ := rt.one
    obtain ⟨a, xs, rfl, s, r⟩ := rt_tup h
    exact .inl ⟨_, xs.length, rfl, .inr ⟨xs, s.sq, rfl⟩, by rw [r.length]; exact q _ _ (.int tb)⟩
  · cases e
    obtain ⟨v, rfl, h⟩ := rt.one
    obtain ⟨rfl, ok⟩ := rt_str h
    exact .inl ⟨_, _, rfl, ⟨sOk_len ok, rfl⟩, q _ _ (.int tb)⟩
  · cases e
    obtain ⟨v, rfl, a, kvs, rfl, s, f, r⟩ := rt.one
    refine .inr (.inl ⟨a, kvs, rfl, s, ?_⟩)
    have := congrArg List.length f
    rw [List.length_map] at this
    rw [this]
    exact q _ _ (.int tb)
  · cases e
    obtain ⟨v, rfl, a, kvs, rfl, s, f, r⟩ := rt.one
    refine .inr (.inr ⟨a, kvs, rfl, s, ?_⟩)
    have := congrArg List.length f
    rw [List.length_map] at this
    rw [this]
    exact q _ _ (.int tb)
  · cases e

/-! ### whole numbers -/
def gII (C : Int → Int → Bool) (g : Int → Int → T) : List T → Option Res
  | [.int i, .int j] => if C i j = true then some (g i j, false) else none
  | _ => none
/-- an operation of two values, as a rule of the list of both -/
def r2 (r : R2) : List V → Hp → VK → Prop := fun vs H Q => ∃ x y, vs = [x, y] ∧ r x y H Q
theorem p_ii {Cd : Int → Int → Bool} {Cp : Int → Int → Prop} {f : Int → Int → Int} (hc : ∀ i j, Cd i j = true → Cp i j) : PrimOk W (r2 (rI Cp fun i j => .int (f i j))) (gII Cd fun i j => .int (f i j)) := by
  intro av ts vs H Q res rt e tb tr q
  unfold gII at e
  split at e
  · split at e
    · rename_i h
      cases e
      obtain ⟨v, w, rfl, h1, h2⟩ := rt.two
      rw [rt_int h1, rt_int h2]
      exact ⟨_, _, rfl, _, _, rfl, rfl, hc _ _ h, q _ _ (.int tb)⟩
    · cases e
  · cases e
theorem p_ii0 {f : Int → Int → Int} : PrimOk W (r2 (rI0 fun i j => .int (f i j))) (gII (fun _ _ => true) fun i j => .int (f i j)) := by
  intro av ts vs H Q res rt e tb tr q
  unfold gII at e
  split at e
  · rw [if_pos rfl] at e
    cases e
    obtain ⟨v, w, rfl, h1, h2⟩ := rt.two
    rw [rt_int h1, rt_int h2]
    exact ⟨_, _, rfl, _, _, rfl, rfl, q _ _ (.int tb)⟩
  · cases e
theorem p_ib0 {f : Int → Int → Bool} : PrimOk W (r2 (rI0 fun i j => .bl (f i j))) (gII (fun _ _ => true) fun i j => .bl (f i j)) := by
  intro av ts vs H Q res rt e tb tr q
  unfold gII at e
  split at e
  · rw [if_pos rfl] at e
    cases e
    obtain ⟨v, w, rfl, h1, h2⟩ := rt.two
    rw [rt_int h1, rt_int h2]
    exact ⟨_, _, rfl, _, _, rfl, rfl, q _ _ (.bl tb)⟩
  · cases e
theorem PrimOk.orL {r r' : List V → Hp → VK → Prop} {g : List T → Option Res} (h : PrimOk W r g) : PrimOk W (fun vs H Q => r vs H Q ∨ r' vs H Q) g := fun av ts vs H Q res rt e tb tr q => .inl (h av ts vs H Q res rt e tb tr q)
theorem PrimOk.orR {r r' : List V → Hp → VK → Prop} {g : List T → Option Res} (h : PrimOk W r' g) : PrimOk W (fun vs H Q => r vs H Q ∨ r' vs H Q) g := fun av ts vs H Q res rt e tb tr q => .inr (h av ts vs H Q res rt e tb tr q)
theorem PrimOk.else {r r' : List V → Hp → VK → Prop} {g g' : List T → Option Res} (h : PrimOk W r g) (h' : PrimOk W r' g') : PrimOk W (fun vs H Q => r vs H Q ∨ r' vs H Q) (fun ts => (g ts).or (g' ts)) := fun av ts vs H Q res rt e tb tr q => by
  have e : (g ts).or (g' ts) = some res := e
  cases hg : g ts with
  | none => rw [hg] at e; exact .inr (h' av ts vs H Q res rt e tb tr q)
  | some x => rw [hg] at e; cases e; exact .inl (h av ts vs H Q _ rt hg tb tr q)
def cMul (i j : Int) : Bool := (decide (-(2 ^ 64) < i) && decide (i < 2 ^ 64)) || (decide (-(2 ^ 64) < j) && decide (j < 2 ^ 64))
theorem cMul_ok (i j : Int) (h : cMul i j = true) : CMul i j := by
  unfold cMul at h
  simp only [Bool.or_eq_true, Bool.and_eq_true, decide_eq_true_eq] at h
  exact h
def cDiv (i j : Int) : Bool := decide (0 < j) && decide (j < 1073741824)
theorem cDiv_ok (i j : Int) (h : cDiv i j = true) : CDiv i j := by
  unfold cDiv at h
  simp only [Bool.and_eq_true, decide_eq_true_eq] at h
  exact h
def cMod (i j : Int) : Bool := decide (0 < j)
def cPow (i j : Int) : Bool := decide (0 ≤ j) && decide (j ≤ 1000000) && decide (i.natAbs < 2 ^ 64)
theorem cPow_ok (i j : Int) (h : cPow i j = true) : CPow i j := by
  unfold cPow at h
  simp only [Bool.and_eq_true, decide_eq_true_eq] at h
  exact ⟨h.1.1, h.1.2, h.2⟩

/-! ### + of texts, tuples, lists -/
def gAddS : List T → Option Res
  | [.str x, .str y] => if x.length + y.length ≤ 16777216 then some (.str (x ++ y), false) else none
  | _ => none
theorem sOk_app {x y : Str} (hx : sOk x = true) (hy : sOk y = true) (hl : x.length + y.length ≤ 16777216) : sOk (x ++ y) = true := by
  unfold sOk at hx hy ⊢
  simp only [Bool.and_eq_true, decide_eq_true_eq] at hx hy ⊢
  have e : (x ++ y).cps = x.cps ++ y.cps := rfl
  refine ⟨by rw [e, Array.all_append, hx.1, hy.1]; rfl, ?_⟩
  show (x ++ y).cps.size ≤ _
  rw [e, Array.size_append]
  exact hl
theorem p_addS : PrimOk W (r2 fun x y H Q => ∃ i j, x = .str i ∧ y = .str j ∧ i.length + j.length ≤ sizeLine ∧ Q (.str (i ++ j)) H) gAddS := by
  intro av ts vs H Q res rt e tb tr q
  unfold gAddS at e
  split at e
  · split at e
    · rename_i hl
      cases e
      obtain ⟨v, w, rfl, h1, h2⟩ := rt.two
      obtain ⟨rfl, o1⟩ := rt_str h1
      obtain ⟨rfl, o2⟩ := rt_str h2
      exact ⟨_, _, rfl, _, _, rfl, rfl, by rw [sizeLine_eq]; exact hl, q _ _ (.str tb (sOk_app o1 o2 hl))⟩
    · cases e
  · cases e
def gAddT : List T → Option Res
  | [.tup _ (x :: xs), .tup _ (y :: ys)] => if xs.length + ys.length + 2 ≤ lim then some (.tup false (x :: xs ++ y :: ys), false) else none
  | _ => none
theorem p_addT : PrimOk W (r2 (rCatT W.K)) gAddT := by
  intro av ts vs H Q res rt e tb tr q
  unfold gAddT at e
  split at e
  · split at e
    · rename_i hl
      cases e
      obtain ⟨v, w, rfl, h1, h2⟩ := rt.two
      obtain ⟨a, xs, rfl, s1, r1⟩ := rt_tup h1
      obtain ⟨b, ys, rfl, s2, r2⟩ := rt_tup h2
      have l1 := r1.length
      have l2 := r2.length
      have n1 : xs ≠ [] := fun z => by rw [z] at l1; cases l1
      have n2 : ys ≠ [] := fun z => by rw [z] at l2; cases l2
      refine ⟨_, _, rfl, a, b, xs, ys, rfl, rfl, s1.sq, s2.sq, n1, by rw [← lim_eq, l1, l2]; simp only [List.length_cons]; omega, fun z => absurd z n2, fun _ p hp => ?_⟩
      exact q _ _ (.tup tr tb hp (r1.append r2))
    · cases e
  · cases e
def gAddL : List T → Option Res
  | [.lst xs, .lst ys] => if xs.length + ys.length ≤ lim then some (.lst (xs ++ ys), true) else none
  | _ => none
theorem p_addL : PrimOk W (r2 rCat) gAddL := by
  intro av ts vs H Q res rt e tb tr q
  unfold gAddL at e
  split at e
  · split at e
    · rename_i hl
      cases e
      obtain ⟨v, w, rfl, h1, h2⟩ := rt.two
      obtain ⟨a, xs, rfl, s1, r1⟩ := h1
      obtain ⟨b, ys, rfl, s2, r2⟩ := h2
      have l1 := r1.length
      have l2 := r2.length
      exact ⟨_, _, rfl, a, b, xs, ys, rfl, rfl, s1, s2, by rw [← lim_eq, l1, l2]; exact hl, fun p hp => q _ _ (.lst tb hp (r1.append r2))⟩
    · cases e
  · cases e
/-- list * n -/
def gRepL : List T → Option Res
  | [.lst xs, .int k] => if 0 ≤ k ∧ k < 1000000 ∧ xs.length * k.toNat ≤ lim then some (.lst (List.replicate k.toNat xs).flatten, true) else none
  | _ => none
theorem RpL.rep : ∀ (n : Nat), RpL W H av ts xs → RpL W H av (List.replicate n ts).flatten (List.replicate n xs).flatten
  | 0, _ => by simp; exact RpL.nil
  | n + 1, r => by
    rw [List.replicate_succ, List.replicate_succ, List.flatten_cons, List.flatten_cons]
    exact r.append (RpL.rep n r)
theorem p_repL : PrimOk W (r2 rRep) gRepL := by
  intro av ts vs H Q res rt e tb tr q
  unfold gRepL at e
  split at e
  · split at e
    · rename_i hl
      cases e
      obtain ⟨v, w, rfl, h1, h2⟩ := rt.two
      obtain ⟨a, xs, rfl, s1, r1⟩ := h1
      rw [rt_int h2]
      have l1 := r1.length
      exact ⟨_, _, rfl, a, _, xs, rfl, rfl, s1, by omega, by omega, by rw [← lim_eq, l1]; exact hl.2.2, fun p hp => q _ _ (.lst tb hp (r1.rep _))⟩
    · cases e
  · cases e

/-! ### data, equality, order -/
mutual
/-- data of at most so many storeys: numbers, texts, None, truths, tuples and lists of such -/
def dOk : Nat → T → Bool
  | _, .non => true
  | _, .bl _ => true
  | _, .int _ => true
  | _, .str _ => true
  | n + 1, .tup _ l => dOkL n l
  | n + 1, .lst l => dOkL n l
  | _, _ => false
def dOkL : Nat → List T → Bool
  | _, [] => true
  | n, t :: ts => dOk n t && dOkL n ts
end
mutual
def teq : T → T → Bool
  | .non, .non => true
  | .bl a, .bl b => a == b
  | .bl a, .int j => (if a then 1 else 0) == j
  | .int i, .bl b => i == (if b then 1 else 0)
  | .int i, .int j => i == j
  | .str x, .str y => x == y
  | .lst xs, .lst ys => teqL xs ys
  | .tup _ xs, .tup _ ys => teqL xs ys
  | _, _ => false
def teqL : List T → List T → Bool
  | [], [] => true
  | x :: xs, y :: ys => teq x y && teqL xs ys
  | _, _ => false
end
mutual
def pd : T → PyData
  | .non => .none
  | .bl b => .bool b
  | .int i => .int i
  | .str x => .str x
  | .tup _ l => .tuple (pdL l)
  | .lst l => .list (pdL l)
  | _ => .dict []
def pdL : List T → List PyData
  | [] => []
  | t :: ts => pd t :: pdL ts
end
mutual
theorem pd_eq : ∀ (n m : Nat) (a b : T), dOk n a = true → dOk m b = true → PyData.eqv (pd a) (pd b) = teq a b
  | n, m, .non, b, ha, hb => by cases b <;> simp_all [pd, teq, PyData.eqv, dOk]
  | n, m, .bl _, b, ha, hb => by cases b <;> simp_all [pd, teq, PyData.eqv, dOk]
  | n, m, .int _, b, ha, hb => by cases b <;> simp_all [pd, teq, PyData.eqv, dOk]
  | n, m, .str _, b, ha, hb => by cases b <;> simp_all [pd, teq, PyData.eqv, dOk]
  | n + 1, m, .tup _ l, b, ha, hb => by
    cases b with
    | tup k2 l2 =>
      cases m with
      | zero => simp [dOk] at hb
      | succ m =>
        simp only [dOk] at ha hb
        simp only [pd, teq, PyData.eqv]
        exact pdL_eq n m l l2 ha hb
    | _ => simp_all [pd, teq, PyData.eqv, dOk]
  | n + 1, m, .lst l, b, ha, hb => by
    cases b with
    | lst l2 =>
      cases m with
      | zero => simp [dOk] at hb
      | succ m =>
        simp only [dOk] at ha hb
        simp only [pd, teq, PyData.eqv]
        exact pdL_eq n m l l2 ha hb
    | _ => simp_all [pd, teq, PyData.eqv, dOk]
  | 0, _, .tup _ _, _, ha, _ => by simp [dOk] at ha
  | 0, _, .lst _, _, ha, _ => by simp [dOk] at ha
  | n, _, .dic .., _, ha, _ => by cases n <;> simp [dOk] at ha
  | n, _, .dit .., _, ha, _ => by cases n <;> simp [dOk] at ha
  | n, _, .ins .., _, ha, _ => by cases n <;> simp [dOk] at ha
  | n, _, .fn .., _, ha, _ => by cases n <;> simp [dOk] at ha
  | n, _, .gfn _, _, ha, _ => by cases n <;> simp [dOk] at ha
  | n, _, .frl _, _, ha, _ => by cases n <;> simp [dOk] at ha
theorem pdL_eq : ∀ (n m : Nat) (a b : List T), dOkL n a = true → dOkL m b = true → PyData.eqvAll (pdL a) (pdL b) = teqL a b
  | n, m, [], [], _, _ => by simp [pdL, teqL, PyData.eqvAll]
  | n, m, [], _ :: _, _, _ => by simp [pdL, teqL, PyData.eqvAll]
  | n, m, _ :: _, [], _, _ => by simp [pdL, teqL, PyData.eqvAll]
  | n, m, x :: xs, y :: ys, ha, hb => by
    simp only [dOkL, Bool.and_eq_true] at ha hb
    simp only [pdL, teqL, PyData.eqvAll]
    rw [pd_eq n m x y ha.1 hb.1, pdL_eq n m xs ys ha.2 hb.2]
end
mutual
theorem pd_dp : ∀ (n : Nat) (t : T) (v : V), dOk n t = true → Rp W H av t v → Dp W.K H v (pd t) ∧ (pd t).canLay0 = true ∧ (pd t).depth ≤ n
  | n, .non, v, h, r => by simp only [Rp] at r; subst r; exact ⟨.non, rfl, Nat.zero_le _⟩
  | n, .bl _, v, h, r => by simp only [Rp] at r; subst r; exact ⟨.bl _, rfl, Nat.zero_le _⟩
  | n, .int _, v, h, r => by simp only [Rp] at r; subst r; exact ⟨.int _, rfl, Nat.zero_le _⟩
  | n, .str x, v, h, r => by
    simp only [Rp] at r
    obtain ⟨rfl, ok⟩ := r
    refine ⟨.str _, ?_, Nat.zero_le _⟩
    unfold sOk at ok
    simp only [Bool.and_eq_true] at ok
    simp only [pd, PyData.canLay0]
    exact ok.1
  | n + 1, .tup _ l, v, h, r => by
    simp only [Rp] at r
    obtain ⟨a, xs, rfl, s, rl⟩ := r
    simp only [dOk] at h
    obtain ⟨d, c, q⟩ := pdL_dp n l xs h rl
    refine ⟨.tup s.sq d, by simpa only [pd, PyData.canLay0] using c, by simp only [pd, PyData.depth]; omega⟩
  | n + 1, .lst l, v, h, r => by
    simp only [Rp] at r
    obtain ⟨a, xs, rfl, na, s, rl⟩ := r
    simp only [dOk] at h
    obtain ⟨d, c, q⟩ := pdL_dp n l xs h rl
    refine ⟨.lst (.inl (.inl s)) d, by simpa only [pd, PyData.canLay0] using c, by simp only [pd, PyData.depth]; omega⟩
  | 0, .tup _ _, _, ha, _ => by simp [dOk] at ha
  | 0, .lst _, _, ha, _ => by simp [dOk] at ha
  | n, .dic .., _, ha, _ => by cases n <;> simp [dOk] at ha
  | n, .dit .., _, ha, _ => by cases n <;> simp [dOk] at ha
  | n, .ins .., _, ha, _ => by cases n <;> simp [dOk] at ha
  | n, .fn .., _, ha, _ => by cases n <;> simp [dOk] at ha
  | n, .gfn _, _, ha, _ => by cases n <;> simp [dOk] at ha
  | n, .frl _, _, ha, _ => by cases n <;> simp [dOk] at ha
theorem pdL_dp : ∀ (n : Nat) (ts : List T) (vs : List V), dOkL n ts = true → RpL W H av ts vs → DpAll W.K H vs (pdL ts) ∧ PyData.canLayAll0 (pdL ts) = true ∧ PyData.depthAll (pdL ts) ≤ n
  | n, [], vs, h, r => by simp only [RpL] at r; subst r; exact ⟨.nil, rfl, Nat.zero_le _⟩
  | n, t :: ts, vs, h, r => by
    simp only [RpL] at r
    obtain ⟨y, ys, rfl, r1, r2⟩ := r
    simp only [dOkL, Bool.and_eq_true] at h
    obtain ⟨d1, c1, q1⟩ := pd_dp n t y h.1 r1
    obtain ⟨d2, c2, q2⟩ := pdL_dp n ts ys h.2 r2
    refine ⟨.cons d1 d2, ?_, ?_⟩
    · simp only [pdL, PyData.canLayAll0, c1, c2, Bool.and_self]
    · simp only [pdL, PyData.depthAll]; omega
end
theorem rt_dp {n : Nat} (h : dOk n t = true) (r : Rt W H av t v) : Dp W.K H v (pd t) ∧ (pd t).canLay0 = true ∧ (pd t).depth ≤ n := by
  cases t with
  | lst l =>
    obtain ⟨a, xs, rfl, s, rl⟩ := r
    cases n with
    | zero => simp [dOk] at h
    | succ n =>
      simp only [dOk] at h
      obtain ⟨d, c, q⟩ := pdL_dp n l xs h rl
      refine ⟨.lst (.inl (.inl s)) d, by simpa only [pd, PyData.canLay0] using c, by simp only [pd, PyData.depth]; omega⟩
  | dic => cases n <;> simp [dOk] at h
  | dit => cases n <;> simp [dOk] at h
  | ins => cases n <;> simp [dOk] at h
  | _ => exact pd_dp (av := av) n _ v h r
theorem shaped_of {n : Nat} {d : PyData} (hn : n ≤ 64) (c : d.canLay0 = true) (q : d.depth ≤ n) : SeqAt.shaped d = true := by
  unfold SeqAt.shaped
  rw [c, decide_eq_true (by omega)]; rfl
/-- == of data -/
def gEq : List T → Option Res
  | [a, b] => if dOk 12 a = true ∧ dOk 12 b = true then some (.bl (teq a b), false) else none
  | _ => none
theorem p_eq : PrimOk W (r2 (rEqD W.K)) gEq := by
  intro av ts vs H Q res rt e tb tr q
  unfold gEq at e
  split at e
  · split at e
    · rename_i h
      cases e
      obtain ⟨v, w, rfl, h1, h2⟩ := rt.two
      obtain ⟨d1, c1, q1⟩ := rt_dp h.1 h1
      obtain ⟨d2, c2, q2⟩ := rt_dp h.2 h2
      exact ⟨_, _, rfl, _, _, d1, d2, shaped_of (by decide) c1 q1, shaped_of (by decide) c2 q2, by rw [pd_eq _ _ _ _ h.1 h.2]; exact q _ _ (.bl tb)⟩
    · cases e
  · cases e
def gNe : List T → Option Res
  | [a, b] => if dOk 12 a = true ∧ dOk 12 b = true then some (.bl (!teq a b), false) else none
  | _ => none
theorem p_ne : PrimOk W (r2 (rNeD W.K)) gNe := by
  intro av ts vs H Q res rt e tb tr q
  unfold gNe at e
  split at e
  · split at e
    · rename_i h
      cases e
      obtain ⟨v, w, rfl, h1, h2⟩ := rt.two
      obtain ⟨d1, c1, q1⟩ := rt_dp h.1 h1
      obtain ⟨d2, c2, q2⟩ := rt_dp h.2 h2
      exact ⟨_, _, rfl, _, _, d1, d2, shaped_of (by decide) c1 q1, shaped_of (by decide) c2 q2, by rw [pd_eq _ _ _ _ h.1 h.2]; exact q _ _ (.bl tb)⟩
    · cases e
  · cases e
end
end Rv
end

section
set_option Elab.async false
set_option autoImplicit false
set_option linter.all false
set_option maxRecDepth 100000
set_option maxHeartbeats 1000000
/-! Rv8: membership, order, sorting, subscripts, slices by value. -/
namespace Rv
open PySem PySem.Spec L2
open PyProof.Rows hiding St

section
variable {W : Wd} {H H' : Hp} {av : Av} {t : T} {ts : List T} {v : V} {vs xs : List V} {a p : Addr} {K : PySem.W.Frag} {X : Cx}
/-! ### x in ys -/
def rInD (K : PySem.W.Frag) (neg : Bool) : R2 := fun x y H Q => ∃ d ds, Dp K H x d ∧ (Dp K H y (.list ds) ∨ Dp K H y (.tuple ds)) ∧ PyData.canLayAll0 ds = true ∧ SeqAt.shaped d = true ∧ Q (.bl (neg ^^ ds.any fun z => PyData.eqv z d)) H
theorem canLay_sh {d : PyData} (h : SeqAt.shaped d = true) : d.canLay0 = true := by
  unfold SeqAt.shaped at h
  simp only [Bool.and_eq_true] at h
  exact h.1
theorem op_inD (hu : X.A.units + 65 < cLine) : OpR X (compareOp .In) (rInD X.K false) := by
  intro pins s σ H x y v u Q I rx ry h
  obtain ⟨d, ds, hd, hy, cs, sd, q⟩ := h
  obtain ⟨as, r1⟩ := Dp.reads I d x v hd rx
  rw [Bool.false_xor] at q
  rcases hy with hy | hy
  · obtain ⟨bs, r2⟩ := Dp.reads I _ y u hy ry
    exact SeqAt.in_list_reads r2 r1 cs (canLay_sh sd) (room_in_shaped sd hu) ⟨.bl _, H, I, rfl, q⟩
  · obtain ⟨bs, r2⟩ := Dp.reads I _ y u hy ry
    exact SeqAt.in_tuple_reads r2 r1 cs (canLay_sh sd) (room_in_shaped sd hu) ⟨.bl _, H, I, rfl, q⟩
theorem op_notInD (hu : X.A.units + 65 < cLine) : OpR X (compareOp .NotIn) (rInD X.K true) := by
  intro pins s σ H x y v u Q I rx ry h
  obtain ⟨d, ds, hd, hy, cs, sd, q⟩ := h
  obtain ⟨as, r1⟩ := Dp.reads I d x v hd rx
  rw [Bool.true_xor] at q
  rcases hy with hy | hy
  · obtain ⟨bs, r2⟩ := Dp.reads I _ y u hy ry
    exact SeqAt.notIn_list_reads r2 r1 cs (canLay_sh sd) (room_in_shaped sd hu) ⟨.bl _, H, I, rfl, q⟩
  · obtain ⟨bs, r2⟩ := Dp.reads I _ y u hy ry
    exact SeqAt.notIn_tuple_reads r2 r1 cs (canLay_sh sd) (room_in_shaped sd hu) ⟨.bl _, H, I, rfl, q⟩
def tIn (x : T) (l : List T) : Bool := l.any fun y => teq y x
def gIn (neg : Bool) : List T → Option Res
  | [x, .lst l] => if dOk 12 x = true ∧ dOkL 11 l = true then some (.bl (neg ^^ tIn x l), false) else none
  | [x, .tup _ l] => if dOk 12 x = true ∧ dOkL 11 l = true then some (.bl (neg ^^ tIn x l), false) else none
  | _ => none
theorem any_eqv {x : T} : ∀ {l : List T}, dOk 12 x = true → dOkL 11 l = true → ((pdL l).any fun z => PyData.eqv z (pd x)) = tIn x l
  | [], _, _ => rfl
  | y :: l, h, hl => by
    simp only [dOkL, Bool.and_eq_true] at hl
    simp only [pdL, List.any_cons, tIn]
    rw [pd_eq _ _ _ _ hl.1 h, any_eqv h hl.2]; rfl
theorem p_in {neg : Bool} : PrimOk W (r2 (rInD W.K neg)) (gIn neg) := by
  intro av ts vs H Q res rt e tb tr q
  unfold gIn at e
  split at e
  · split at e
    · rename_i x l h
      cases e
      obtain ⟨v, w, rfl, h1, h2⟩ := rt.two
      obtain ⟨d1, c1, q1⟩ := rt_dp h.1 h1
      have hl : dOk 12 (.lst l) = true := by simp only [dOk]; exact h.2
      obtain ⟨d2, c2, q2⟩ := rt_dp hl h2
      refine ⟨_, _, rfl, _, pdL l, d1, .inl (by simpa only [pd] using d2), by simpa only [pd, PyData.canLay0] using c2, shaped_of (by decide) c1 q1, ?_⟩
      rw [any_eqv h.1 h.2]; exact q _ _ (.bl tb)
    · cases e
  · split at e
    · rename_i x k l h
      cases e
      obtain ⟨v, w, rfl, h1, h2⟩ := rt.two
      obtain ⟨d1, c1, q1⟩ := rt_dp h.1 h1
      have hl : dOk 12 (.tup k l) = true := by simp only [dOk]; exact h.2
      obtain ⟨d2, c2, q2⟩ := rt_dp hl h2
      refine ⟨_, _, rfl, _, pdL l, d1, .inr (by simpa only [pd] using d2), by simpa only [pd, PyData.canLay0] using c2, shaped_of (by decide) c1 q1, ?_⟩
      rw [any_eqv h.1 h.2]; exact q _ _ (.bl tb)
    · cases e
  · cases e
/-- one sign in a text -/
def gInS (neg : Bool) : List T → Option Res
  | [.str x, .str z] => match x.cps.toList with
    | [c] => some (.bl (neg ^^ decide (c ∈ z.cps.toList)), false)
    | _ => none
  | _ => none
theorem p_inS : PrimOk W (r2 fun x y H Q => ∃ (c : Nat) (z : Str), x = .str ⟨#[c]⟩ ∧ y = .str z ∧ Q (.bl (decide (c ∈ z.cps.toList))) H) (gInS false) := by
  intro av ts vs H Q res rt e tb tr q
  unfold gInS at e
  split at e
  · rename_i x z
    split at e
    · rename_i c hc
      cases e
      obtain ⟨v, w, rfl, h1, h2⟩ := rt.two
      obtain ⟨rfl, _⟩ := rt_str h1
      obtain ⟨rfl, _⟩ := rt_str h2
      have ex : x = ⟨#[c]⟩ := by
        obtain ⟨⟨l⟩⟩ := x
        have hc : l = [c] := hc
        subst hc; rfl
      refine ⟨_, _, rfl, c, z, by rw [ex], rfl, ?_⟩
      rw [Bool.false_xor] at q
      exact q _ _ (.bl tb)
    · cases e
  · cases e
/-! ### keys of dicts -/
def kOf : T → Option Key
  | .int i => some (.inl i)
  | .str x => some (.inr x)
  | _ => none
theorem rt_key {k : Key} (h : kOf t = some k) (r : Rt W H av t v) : v = kV k := by
  unfold kOf at h
  split at h
  · cases h; exact rt_int r
  · cases h; exact (rt_str r).1
  · cases h
/-- the value at a key -/
def atK {α β : Type} [DecidableEq α] (ks : List α) (l : List β) (k : α) : Option β := ((ks.zip l).find? fun p => decide (p.1 = k)).map (·.2)
def hasK {α : Type} [DecidableEq α] (ks : List α) (k : α) : Bool := ks.any fun j => decide (j = k)
def gInK (neg : Bool) : List T → Option Res
  | [x, .dic ks l] => match kOf x with
    | some k => some (.bl (neg ^^ hasK ks k), false)
    | none => none
  | _ => none
theorem valV_some {kvs : List (Key × V)} {k : Key} : (valV kvs k).isSome = hasK (kvs.map (·.1)) k := by
  rw [← valV_any]
  unfold hasK
  rw [List.any_map]; rfl
theorem p_inK : PrimOk W (r2 fun y x H Q => ∃ a o, x = .ref a ∧ DGet H a y o ∧ Q (.bl o.isSome) H) (gInK false) := by
  intro av ts vs H Q res rt e tb tr q
  unfold gInK at e
  split at e
  · split at e
    · rename_i hk
      cases e
      obtain ⟨v, w, rfl, h1, a, kvs, rfl, s, f, r⟩ := rt.two
      refine ⟨_, _, rfl, a, _, rfl, .inl ⟨kvs, _, .inl s, rt_key hk h1, rfl⟩, ?_⟩
      rw [valV_some, f]
      rw [Bool.false_xor] at q
      exact q _ _ (.bl tb)
    · cases e
  · cases e
theorem p_notInK : PrimOk W (r2 fun y x H Q => ∃ a o, x = .ref a ∧ DGet H a y o ∧ Q (.bl (!o.isSome)) H) (gInK true) := by
  intro av ts vs H Q res rt e tb tr q
  unfold gInK at e
  split at e
  · split at e
    · rename_i hk
      cases e
      obtain ⟨v, w, rfl, h1, a, kvs, rfl, s, f, r⟩ := rt.two
      refine ⟨_, _, rfl, a, _, rfl, .inl ⟨kvs, _, .inl s, rt_key hk h1, rfl⟩, ?_⟩
      rw [valV_some, f]
      rw [Bool.true_xor] at q
      exact q _ _ (.bl tb)
    · cases e
  · cases e

/-! ### is None -/
def isNon : T → Bool
  | .non => true
  | _ => false
def gIsN (neg : Bool) : List T → Option Res
  | [x, .non] => some (.bl (neg ^^ isNon x), false)
  | _ => none
theorem rt_isnon (r : Rt W H av t v) : decide (v = .non) = isNon t := by
  cases t with
  | non => rw [rt_non r]; rfl
  | bl b => rw [rt_bl r]; rfl
  | int i => rw [rt_int r]; rfl
  | str x => rw [(rt_str r).1]; rfl
  | tup k l => obtain ⟨a, xs, rfl, _⟩ := rt_tup r; rfl
  | lst l => obtain ⟨a, xs, rfl, _⟩ := r; rfl
  | dic ks l => obtain ⟨a, xs, rfl, _⟩ := r; rfl
  | dit ks l => obtain ⟨a, xs, rfl, _⟩ := r; rfl
  | ins c fs l => obtain ⟨a, dx, xs, rfl, _⟩ := r; rfl
  | fn q f c ws l =>
    have : Rp W H av (.fn q f c ws l) v := r
    simp only [Rp] at this
    rw [this.1]; rfl
  | gfn i =>
    have : Rp W H av (.gfn i) v := r
    simp only [Rp] at this
    rw [this]; rfl
  | frl l => obtain ⟨a, xs, rfl, _⟩ := rt_frl r; rfl
theorem p_isN : PrimOk W (r2 fun x y H Q => y = .non ∧ Q (.bl (decide (x = .non))) H) (gIsN false) := by
  intro av ts vs H Q res rt e tb tr q
  unfold gIsN at e
  split at e
  · cases e
    obtain ⟨v, w, rfl, h1, h2⟩ := rt.two
    refine ⟨_, _, rfl, rt_non h2, ?_⟩
    rw [rt_isnon h1]
    rw [Bool.false_xor] at q
    exact q _ _ (.bl tb)
  · cases e
theorem p_notN : PrimOk W (r2 fun x y H Q => y = .non ∧ Q (.bl (!decide (x = .non))) H) (gIsN true) := by
  intro av ts vs H Q res rt e tb tr q
  unfold gIsN at e
  split at e
  · cases e
    obtain ⟨v, w, rfl, h1, h2⟩ := rt.two
    refine ⟨_, _, rfl, rt_non h2, ?_⟩
    rw [rt_isnon h1]
    rw [Bool.true_xor] at q
    exact q _ _ (.bl tb)
  · cases e

/-! ### order -/
def rCmpD (K : PySem.W.Frag) (f : PyData → PyData → Bool) : R2 := fun x y H Q => ∃ d e, Dp K H x d ∧ Dp K H y e ∧ PySem.W.alike d e = true ∧ d ≠ .none ∧ SeqAt.shaped d = true ∧ Q (.bl (f d e)) H
theorem room_sh {A : Around} {d e : PyData} (hu : A.units + 64 < cLine) (h : SeqAt.shaped d = true) : A.units + min d.depth e.depth < cLine := by
  have h1 := SeqAt.depth_of_shaped h
  have h2 : min d.depth e.depth ≤ d.depth := Nat.min_le_left _ _
  omega
theorem op_ltD (hu : X.A.units + 64 < cLine) : OpR X (compareOp .Lt) (rCmpD X.K PySem.W.dataLt) := by
  intro pins s σ H x y v u Q I rx ry h
  obtain ⟨d, e, hd, he, al, nn, sh, q⟩ := h
  obtain ⟨as, r1⟩ := Dp.reads I d x v hd rx
  obtain ⟨bs, r2⟩ := Dp.reads I e y u he ry
  exact PySem.W.lt_data r1 r2 al nn (room_sh hu sh) ⟨.bl _, H, I, rfl, q⟩
theorem op_gtD (hu : X.A.units + 64 < cLine) : OpR X (compareOp .Gt) (rCmpD X.K fun d e => PySem.W.dataLt e d) := by
  intro pins s σ H x y v u Q I rx ry h
  obtain ⟨d, e, hd, he, al, nn, sh, q⟩ := h
  obtain ⟨as, r1⟩ := Dp.reads I d x v hd rx
  obtain ⟨bs, r2⟩ := Dp.reads I e y u he ry
  exact PySem.W.gt_data r1 r2 al nn (room_sh hu sh) ⟨.bl _, H, I, rfl, q⟩
theorem op_leD (hu : X.A.units + 64 < cLine) : OpR X (compareOp .LtE) (rCmpD X.K fun d e => !PySem.W.dataLt e d) := by
  intro pins s σ H x y v u Q I rx ry h
  obtain ⟨d, e, hd, he, al, nn, sh, q⟩ := h
  obtain ⟨as, r1⟩ := Dp.reads I d x v hd rx
  obtain ⟨bs, r2⟩ := Dp.reads I e y u he ry
  exact PySem.W.le_data r1 r2 al nn (room_sh hu sh) ⟨.bl _, H, I, rfl, q⟩
theorem op_geD (hu : X.A.units + 64 < cLine) : OpR X (compareOp .GtE) (rCmpD X.K fun d e => !PySem.W.dataLt d e) := by
  intro pins s σ H x y v u Q I rx ry h
  obtain ⟨d, e, hd, he, al, nn, sh, q⟩ := h
  obtain ⟨as, r1⟩ := Dp.reads I d x v hd rx
  obtain ⟨bs, r2⟩ := Dp.reads I e y u he ry
  exact PySem.W.ge_data r1 r2 al nn (room_sh hu sh) ⟨.bl _, H, I, rfl, q⟩
def gCmp (f : PyData → PyData → Bool) : List T → Option Res
  | [a, b] => if dOk 12 a = true ∧ dOk 12 b = true ∧ PySem.W.alike (pd a) (pd b) = true ∧ isNon a = false then some (.bl (f (pd a) (pd b)), false) else none
  | _ => none
theorem pd_nn {n : Nat} (h : dOk n t = true) (q : isNon t = false) : pd t ≠ .none := by
  cases t <;> first | (simp [isNon] at q; done) | (simp [pd]; done) | (cases n <;> simp [dOk] at h; done)
theorem p_cmp {f : PyData → PyData → Bool} : PrimOk W (r2 (rCmpD W.K f)) (gCmp f) := by
  intro av ts vs H Q res rt e tb tr q
  unfold gCmp at e
  split at e
  · split at e
    · rename_i h
      cases e
      obtain ⟨v, w, rfl, h1, h2⟩ := rt.two
      obtain ⟨d1, c1, q1⟩ := rt_dp h.1 h1
      obtain ⟨d2, c2, q2⟩ := rt_dp h.2.1 h2
      exact ⟨_, _, rfl, _, _, d1, d2, h.2.2.1, pd_nn h.1 h.2.2.2, shaped_of (by decide) c1 q1, q _ _ (.bl tb)⟩
    · cases e
  · cases e

/-! ### sorted -/
def tuN : T → Bool
  | .tup _ (_ :: _) => true
  | _ => false
def noTu : T → Bool
  | .tup _ _ => false
  | .non => false
  | _ => true
def srtOk (ts : List T) : Bool := dOkL 11 ts && (ts.all fun a => ts.all fun b => PySem.W.alike (pd a) (pd b)) && (ts.all tuN || ts.all noTu)
def tle (a b : T) : Bool := PySem.W.dataLe false pd a b
def gSort : List T → Option Res
  | [.lst l] => if srtOk l = true ∧ l.length ≤ lim then some (.lst (l.mergeSort tle), true) else none
  | _ => none
def rSrt (K : PySem.W.Frag) : List V → Hp → VK → Prop := fun xs H Q => ∃ (a : Addr) (bs : List (T × V)), xs = [.ref a] ∧ H a = some (.lst (bs.map (·.2))) ∧ (∀ b ∈ bs, Dp K H b.2 (pd b.1) ∧ (pd b.1).depth ≤ 11) ∧ srtOk (bs.map (·.1)) = true ∧
  ∀ p, H p = none → Q (.ref p) (upd H p (.lst ((bs.mergeSort (PySem.W.dataLe false fun b => pd b.1)).map (·.2))))
theorem each_zip {R : Value → T × V → Prop} : ∀ {bs : List (T × V)} {us : List Value}, Vals (bs.map (·.2)) us → (∀ b ∈ bs, ∀ u, RelV b.2 u → R u b) → PySem.W.EachIs R us bs
  | [], us, r, h => by cases r; exact .nil
  | b :: bs, us, r, h => by
    cases r with
    | cons r1 r2 => exact .cons (h b List.mem_cons_self _ r1) (each_zip r2 fun c hc => h c (List.mem_cons_of_mem _ hc))
theorem vals_each : ∀ {bs : List (T × V)} {us : List Value}, PySem.W.EachIs (fun u b => RelV b.2 u) us bs → Vals (bs.map (·.2)) us
  | [], _, .nil => .nil
  | b :: bs, _, .cons h t => .cons h (vals_each t)
theorem dOkL_mem {n : Nat} : ∀ {l : List T}, dOkL n l = true → ∀ a ∈ l, dOk n a = true
  | [], _, a, h => nomatch h
  | x :: l, h, a, m => by
    simp only [dOkL, Bool.and_eq_true] at h
    rcases List.mem_cons.mp m with rfl | m
    · exact h.1
    · exact dOkL_mem h.2 a m
theorem srt_alike {bs : List (T × V)} (h : srtOk (bs.map (·.1)) = true) : PySem.W.AllAlike (bs.map fun b => pd b.1) := by
  unfold srtOk at h
  simp only [Bool.and_eq_true, List.all_eq_true] at h
  intro d hd d' hd'
  obtain ⟨b, hb, rfl⟩ := List.mem_map.mp hd
  obtain ⟨b', hb', rfl⟩ := List.mem_map.mp hd'
  exact h.1.2 _ (List.mem_map_of_mem hb) _ (List.mem_map_of_mem hb')
theorem srt_able {bs : List (T × V)} (h : srtOk (bs.map (·.1)) = true) : PySem.W.Sortable (bs.map fun b => pd b.1) := by
  unfold srtOk at h
  simp only [Bool.and_eq_true, Bool.or_eq_true, List.all_eq_true] at h
  rcases h.2 with q | q
  · refine .inl fun d hd => ?_
    obtain ⟨b, hb, rfl⟩ := List.mem_map.mp hd
    have := q _ (List.mem_map_of_mem (f := (·.1)) hb)
    unfold tuN at this
    split at this
    · rename_i e
      exact ⟨_, _, by rw [e]; simp only [pd, pdL]; rfl⟩
    · cases this
  · refine .inr fun d hd => ?_
    obtain ⟨b, hb, rfl⟩ := List.mem_map.mp hd
    have q1 := q _ (List.mem_map_of_mem (f := (·.1)) hb)
    have q2 := dOkL_mem h.1.1 _ (List.mem_map_of_mem (f := (·.1)) hb)
    generalize b.1 = c at q1 q2
    cases c <;> first | (simp [noTu] at q1; done) | (simp [dOk] at q2; done) | simp [pd]
theorem cr_srt (hu : X.A.units + 64 < cLine) : CallR X (.builtin "sorted") (rSrt X.K) := by
  intro pins s σ H vs us Q I r h
  obtain ⟨a, bs, rfl, hs, hb, ok, q⟩ := h
  obtain ⟨its, rv, hl, hz⟩ := I.list (.inl (.inl hs))
  rw [Vals.ref1 r]
  have hlen : bs.length ≤ sizeLine := by rw [List.length_map] at hz; exact hz
  refine PySem.W.sorted_data (R := fun u b => RelV b.2 u) (bs := bs) (enc := fun b => pd b.1) hl.isList (each_zip rv fun b _ u r => r) (each_zip rv fun b hb' u r => Dp.reads I _ _ _ (hb b hb').1 r) (srt_alike ok) (srt_able ok) hlen (fun b hb' => ?_) fun out lo eo => ?_
  · have := (hb b hb').2
    omega
  · obtain ⟨ep, he'⟩ := PyProof.Rows.sortedAll_at s.heap its out.toArray
    refine ⟨.ref _, upd H (s.heap.objs.size + 1) (.lst ((bs.mergeSort (PySem.W.dataLe false fun b => pd b.1)).map (·.2))), I.laid (t' := s.toks) (fun _ _ => PyProof.Rows.sortedAll_old) (Nat.le_succ _) ⟨?_, out, ep, vals_each eo, he'⟩, rfl, q _ (I.hok.fresh (Nat.le_succ _))⟩
    rw [List.length_map, List.length_mergeSort]; exact hlen
theorem RpL.zip_mem : ∀ {ts : List T} {xs : List V}, RpL W H av ts xs → ∀ b ∈ ts.zip xs, Rp W H av b.1 b.2
  | [], xs, r, b, h => by simp at h
  | t :: ts, xs, r, b, h => by
    simp only [RpL] at r
    obtain ⟨y, ys, rfl, h1, h2⟩ := r
    rw [List.zip_cons_cons] at h
    rcases List.mem_cons.mp h with rfl | h
    · exact h1
    · exact RpL.zip_mem h2 b h
theorem RpL.of_mem : ∀ {bs : List (T × V)}, (∀ b ∈ bs, Rp W H av b.1 b.2) → RpL W H av (bs.map (·.1)) (bs.map (·.2))
  | [], _ => RpL.nil
  | b :: bs, h => RpL.cons (h b List.mem_cons_self) (RpL.of_mem fun c hc => h c (List.mem_cons_of_mem _ hc))
theorem p_sort : PrimOk W (rSrt W.K) gSort := by
  intro av ts vs H Q res rt e tb tr q
  unfold gSort at e
  split at e
  · split at e
    · rename_i l h
      cases e
      obtain ⟨v, rfl, a, xs, rfl, s, r⟩ := rt.one
      have hl := r.length
      have e1 : (l.zip xs).map (·.1) = l := List.map_fst_zip (by omega)
      have e2 : (l.zip xs).map (·.2) = xs := List.map_snd_zip (by omega)
      have ok := h.1
      refine ⟨a, l.zip xs, rfl, by rw [e2]; exact s, fun b hb => ?_, by rw [e1]; exact h.1, fun p hp => q _ _ ?_⟩
      · have hd : dOk 11 b.1 = true := by
          unfold srtOk at ok
          simp only [Bool.and_eq_true] at ok
          exact dOkL_mem ok.1.1 _ (by rw [← e1]; exact List.mem_map_of_mem hb)
        obtain ⟨d, _, dd⟩ := pd_dp 11 b.1 b.2 hd (r.zip_mem b hb)
        exact ⟨d, dd⟩
      · have e3 : l.mergeSort tle = ((l.zip xs).mergeSort (PySem.W.dataLe false fun b => pd b.1)).map (·.1) := by
          have := PySem.W.sort_maps (r := PySem.W.dataLe false fun b : T × V => pd b.1) (s := tle) (fun b : T × V => b.1) (l := l.zip xs) (fun a _ b _ => rfl)
          rw [this, e1]
        rw [e3]
        exact RPost.lst tb hp (RpL.of_mem fun b hb => r.zip_mem b ((List.mergeSort_perm _ _).mem_iff.mp hb))
    · cases e
  · cases e
end
end Rv
end

section
set_option Elab.async false
set_option autoImplicit false
set_option linter.all false
set_option maxRecDepth 100000
set_option maxHeartbeats 1000000
/-! Rv9: subscripts, slices, built-in functions, methods, displays by value. -/
namespace Rv
open PySem PySem.Spec L2
open PyProof.Rows hiding St

section
variable {W : Wd} {H H' : Hp} {av : Av} {t : T} {ts : List T} {v : V} {vs xs : List V} {a p : Addr} {K : PySem.W.Frag} {X : Cx}
/-! ### o[i] -/
theorem RpL.atI {i : Int} (r : RpL W H av ts xs) (e : atI ts i = some t) : ∃ v, atI xs i = some v ∧ Rp W H av t v := by
  unfold L2.atI at e ⊢
  rw [r.length]
  cases h : ixN ts.length i with
  | none => rw [h] at e; cases e
  | some j =>
    rw [h] at e
    exact r.get e
def gIx : List T → Option Res
  | [.lst l, .int i] => (atI l i).map (·, false)
  | [.frl l, .int i] => (atI l i).map (·, false)
  | [.tup _ l, .int i] => (atI l i).map (·, false)
  | [.str x, .int i] => (atI x.cps.toList i).map fun c => (.str ⟨#[c]⟩, false)
  | _ => none
theorem atI_mem {α : Type} {l : List α} {i : Int} {c : α} (h : L2.atI l i = some c) : c ∈ l := by
  unfold L2.atI at h
  obtain ⟨j, _, h2⟩ := Option.bind_eq_some_iff.mp h
  exact List.mem_of_getElem? h2
theorem sOk_sign {x : Str} {c : Nat} (h : sOk x = true) (m : c ∈ x.cps.toList) : sOk ⟨#[c]⟩ = true := by
  unfold sOk at h ⊢
  simp only [Bool.and_eq_true, decide_eq_true_eq] at h ⊢
  refine ⟨?_, by show 1 ≤ _; decide⟩
  have := h.1
  rw [Array.all_eq_true'] at this
  have q := this c (by simpa using m)
  simp only [decide_eq_true_eq] at q
  simp [q]
theorem p_ix : PrimOk W (r2 (rIx W.K)) gIx := by
  intro av ts vs H Q res rt e tb tr q
  unfold gIx at e
  split at e
  · rename_i l i
    obtain ⟨t, et, rfl⟩ := Option.map_eq_some_iff.mp e
    obtain ⟨v, w, rfl, ⟨a, xs, rfl, s, r⟩, h2⟩ := rt.two
    obtain ⟨z, ez, rz⟩ := r.atI et
    exact ⟨_, _, rfl, .inl ⟨a, xs, i, z, rfl, rt_int h2, .inl (.inl s), ez, q _ _ (.same tb rz)⟩⟩
  · rename_i l i
    obtain ⟨t, et, rfl⟩ := Option.map_eq_some_iff.mp e
    obtain ⟨v, w, rfl, h1, h2⟩ := rt.two
    obtain ⟨a, xs, rfl, s, r⟩ := rt_frl h1
    obtain ⟨z, ez, rz⟩ := r.atI et
    exact ⟨_, _, rfl, .inl ⟨a, xs, i, z, rfl, rt_int h2, s.sq, ez, q _ _ (.same tb rz)⟩⟩
  · rename_i k l i
    obtain ⟨t, et, rfl⟩ := Option.map_eq_some_iff.mp e
    obtain ⟨v, w, rfl, h1, h2⟩ := rt.two
    obtain ⟨a, xs, rfl, s, r⟩ := rt_tup h1
    obtain ⟨z, ez, rz⟩ := r.atI et
    exact ⟨_, _, rfl, .inr (.inl ⟨a, xs, i, z, rfl, rt_int h2, s.sq, ez, q _ _ (.same tb rz)⟩)⟩
  · rename_i x i
    obtain ⟨c, et, rfl⟩ := Option.map_eq_some_iff.mp e
    obtain ⟨v, w, rfl, h1, h2⟩ := rt.two
    obtain ⟨rfl, ok⟩ := rt_str h1
    exact ⟨_, _, rfl, .inr (.inr ⟨x, i, c, rfl, rt_int h2, sOk_len ok, et, q _ _ (.str tb (sOk_sign ok (atI_mem et)))⟩)⟩
  · cases e
/-- d[k] -/
def gDGet : List T → Option Res
  | [.dic ks l, x] => match kOf x with
    | some k => (atK ks l k).map (·, false)
    | none => none
  | _ => none
theorem valV_atK {β : Type} [DecidableEq β] {k : β} : ∀ {kvs : List (β × V)} {l : List T} {t : T}, RpL W H av l (kvs.map (·.2)) → atK (kvs.map (·.1)) l k = some t → ∃ v, valV kvs k = some v ∧ Rp W H av t v
  | [], l, t, r, e => by simp [atK] at e
  | kv :: kvs, [], t, r, e => by simp [atK] at e
  | kv :: kvs, t' :: l, t, r, e => by
    simp only [List.map_cons] at r
    have r' : ∃ y ys, kv.2 :: kvs.map (·.2) = y :: ys ∧ Rp W H av t' y ∧ RpL W H av l ys := by simpa only [RpL] using r
    obtain ⟨y, ys, ee, r1, r2⟩ := r'
    cases ee
    by_cases h : kv.1 = k
    · rw [valV_pos h]
      unfold atK at e
      rw [List.map_cons, List.zip_cons_cons, List.find?_cons_of_pos (by simpa using h)] at e
      cases e
      exact ⟨_, rfl, r1⟩
    · rw [valV_neg h]
      unfold atK at e
      rw [List.map_cons, List.zip_cons_cons, List.find?_cons_of_neg (by simpa using h)] at e
      exact valV_atK r2 e
theorem p_dget : PrimOk W (r2 fun x y H Q => ∃ a v, x = .ref a ∧ DGet H a y (some v) ∧ Q v H) gDGet := by
  intro av ts vs H Q res rt e tb tr q
  unfold gDGet at e
  split at e
  · split at e
    · rename_i k hk
      obtain ⟨t, et, rfl⟩ := Option.map_eq_some_iff.mp e
      obtain ⟨v, w, rfl, ⟨a, kvs, rfl, s, rfl, r⟩, h2⟩ := rt.two
      obtain ⟨z, ez, rz⟩ := valV_atK r et
      exact ⟨_, _, rfl, a, z, rfl, .inl ⟨kvs, k, .inl s, rt_key hk h2, ez.symm⟩, q _ _ (.same tb rz)⟩
    · cases e
  · cases e

/-! ### slices -/
def cutG {α : Type} (xs : List α) (lo hi : Option Int) : List α := (xs.drop (HT.sIx xs.length 0 lo)).take (HT.sIx xs.length xs.length hi - HT.sIx xs.length 0 lo)
theorem RpL.cut {lo hi : Option Int} (r : RpL W H av ts xs) : RpL W H av (cutG ts lo hi) (cutV xs lo hi) := by
  unfold cutG cutV
  rw [r.length]
  exact (r.drop _).take _
def whole (n : Nat) (lo hi : Option Int) : Bool := decide (HT.sIx n 0 lo = 0) && decide (HT.sIx n n hi = n)
def gCut (x : T) (lo hi : Option Int) : Option Res := match x with
  | .lst l => some (.lst (cutG l lo hi), true)
  | .frl l => some (.lst (cutG l lo hi), true)
  | .tup k l => if whole l.length lo hi = true then some (.tup k l, false) else some (.tup false (cutG l lo hi), false)
  | .str z => some (.str (cutS z lo hi), false)
  | _ => none
def rCut (K : PySem.W.Frag) : V → Option Int → Option Int → Hp → VK → Prop := fun x lo hi H Q => rSlL K x lo hi H Q ∨ rSlA K x lo hi H Q ∨ rSlS x lo hi H Q
theorem SlR.or {r r' : V → Option Int → Option Int → Hp → VK → Prop} (h : SlR X r) (h' : SlR X r') : SlR X fun x lo hi H Q => r x lo hi H Q ∨ r' x lo hi H Q := fun pins s σ H x v vl vu lo hi sl Q I rx hs pl pu q => by
  rcases q with q | q
  · exact h pins s σ H x v vl vu lo hi sl Q I rx hs pl pu q
  · exact h' pins s σ H x v vl vu lo hi sl Q I rx hs pl pu q
theorem sl_cut : SlR X (rCut X.K) := SlR.or sl_list (SlR.or sl_tupA sl_str)
theorem sOk_cut {z : Str} {lo hi : Option Int} (h : sOk z = true) : sOk (cutS z lo hi) = true := by
  unfold sOk at h ⊢
  simp only [Bool.and_eq_true, decide_eq_true_eq] at h ⊢
  have hm : ∀ c ∈ (cutS z lo hi).cps.toList, c ∈ z.cps.toList := fun c hc => by
    have hc : c ∈ ((z.cps.toList.drop (HT.sIx z.length 0 lo)).take (HT.sIx z.length z.length hi - HT.sIx z.length 0 lo)) := by simpa [cutS] using hc
    exact List.mem_of_mem_drop (List.mem_of_mem_take hc)
  refine ⟨?_, ?_⟩
  · rw [Array.all_eq_true'] at *
    exact fun c hc => h.1 c (by simpa using hm c (by simpa using hc))
  · have : (cutS z lo hi).length ≤ z.length := by
      show (cutS z lo hi).cps.size ≤ z.cps.size
      unfold cutS
      simp only [List.size_toArray, List.length_take, List.length_drop, Array.length_toList]
      omega
    have := h.2
    omega
theorem cut_core {x : V} {lo hi : Option Int} {Q : VK} {res : Res} (rt : Rt W H av t x) (e : gCut t lo hi = some res) (tb : NdefX.TabsN W.tb H) (tr : ∀ a, av a → ¬ Nw H a) (q : ∀ v H', RPost W H av H' res v → Q v H') : rCut W.K x lo hi H Q := by
  unfold gCut at e
  split at e
  · cases e
    obtain ⟨a, xs, rfl, s, r⟩ := rt
    exact .inl ⟨a, xs, rfl, .inl (.inl s), fun p hp => q _ _ (.lst tb hp r.cut)⟩
  · cases e
    obtain ⟨a, xs, rfl, s, r⟩ := rt_frl rt
    exact .inl ⟨a, xs, rfl, s.sq, fun p hp => q _ _ (.lst tb hp r.cut)⟩
  · rename_i k l
    obtain ⟨a, xs, rfl, s, r⟩ := rt_tup rt
    have hl := r.length
    refine .inr (.inl ⟨a, xs, rfl, s.sq, fun w => ?_, fun w p hp => ?_⟩)
    · rw [hl] at w
      rw [if_pos (by unfold whole; simp only [Bool.and_eq_true, decide_eq_true_eq]; exact w)] at e
      cases e
      exact q _ _ (.same tb (by simp only [Rp]; exact ⟨a, xs, rfl, s, r⟩))
    · rw [hl] at w
      rw [if_neg (by unfold whole; simp only [Bool.and_eq_true, decide_eq_true_eq]; exact w)] at e
      cases e
      exact q _ _ (.tup tr tb hp r.cut)
  · cases e
    obtain ⟨rfl, ok⟩ := rt_str rt
    exact .inr (.inr ⟨_, rfl, sOk_len ok, q _ _ (.str tb (sOk_cut ok))⟩)
  · cases e
def gSlL : List T → Option Res
  | [x, .int i] => gCut x (some i) none
  | _ => none
def gSlH : List T → Option Res
  | [x, .int i] => gCut x none (some i)
  | _ => none
def gSlB : List T → Option Res
  | [x, .int i, .int j] => gCut x (some i) (some j)
  | _ => none
theorem p_slL : PrimOk W (fun vs H Q => ∃ x i, vs = [x, .int i] ∧ rCut W.K x (some i) none H Q) gSlL := by
  intro av ts vs H Q res rt e tb tr q
  unfold gSlL at e
  split at e
  · obtain ⟨v, w, rfl, h1, h2⟩ := rt.two
    exact ⟨v, _, by rw [rt_int h2], cut_core h1 e tb tr q⟩
  · cases e
theorem p_slH : PrimOk W (fun vs H Q => ∃ x i, vs = [x, .int i] ∧ rCut W.K x none (some i) H Q) gSlH := by
  intro av ts vs H Q res rt e tb tr q
  unfold gSlH at e
  split at e
  · obtain ⟨v, w, rfl, h1, h2⟩ := rt.two
    exact ⟨v, _, by rw [rt_int h2], cut_core h1 e tb tr q⟩
  · cases e
theorem p_slB : PrimOk W (fun vs H Q => ∃ x i j, vs = [x, .int i, .int j] ∧ rCut W.K x (some i) (some j) H Q) gSlB := by
  intro av ts vs H Q res rt e tb tr q
  unfold gSlB at e
  split at e
  · obtain ⟨v, w, u, rfl, h1, h2, h3⟩ := rt.three
    exact ⟨v, _, _, by rw [rt_int h2, rt_int h3], cut_core h1 e tb tr q⟩
  · cases e

/-! ### built-in functions -/
/-- isinstance of a built-in type -/
def tyN : T → Option String
  | .non => some "NoneType"
  | .bl _ => some "bool"
  | .int _ => some "int"
  | .str _ => some "str"
  | .tup _ _ => some "tuple"
  | .lst _ => some "list"
  | .dic _ _ => some "dict"
  | _ => none
def isiT (n : String) (x : T) : Option Bool := (tyN x).map fun m => (m == n || (m == "bool" && n == "int"))
def tys : List String := ["bool", "int", "str", "tuple", "list", "dict"]
def gIsi (n : String) : List T → Option Res
  | [x] => if n ∈ tys then (isiT n x).map fun b => (.bl b, false) else none
  | _ => none
def rIsi1 (n : String) (K : PySem.W.Frag) : List V → Hp → VK → Prop := fun xs H Q => ∃ x t b, xs = [x] ∧ TyX K H x t ∧ PySem.W.kitOne K t (.type n) = some b ∧ Q (.bl b) H
theorem kit_tys : ∀ n ∈ tys, ∀ m ∈ ["NoneType", "bool", "int", "str", "tuple", "list", "dict"], kitB m n = some (m == n || (m == "bool" && n == "int")) := by
  decide +kernel
theorem p_isi {n : String} : PrimOk W (rIsi1 n W.K) (gIsi n) := by
  intro av ts vs H Q res rt e tb tr q
  unfold gIsi at e
  split at e
  · rename_i x
    split at e
    · rename_i hn
      obtain ⟨v, rfl, h⟩ := rt.one
      obtain ⟨b, eb, rfl⟩ := Option.map_eq_some_iff.mp e
      obtain ⟨m, em, rfl⟩ := Option.map_eq_some_iff.mp eb
      have go : m ∈ ["NoneType", "bool", "int", "str", "tuple", "list", "dict"] → TyX W.K H v (.type m) → rIsi1 n W.K [v] H Q := fun hm ty => ⟨v, _, _, rfl, ty, kit_ty (kit_tys n hn m hm), q _ _ (.bl tb)⟩
      cases x with
      | non => cases em; rw [rt_non h] at go ⊢; exact go (by decide) (.base .non)
      | bl y => cases em; rw [rt_bl h] at go ⊢; exact go (by decide) (.base (.bl y))
      | int y => cases em; rw [rt_int h] at go ⊢; exact go (by decide) (.base (.int y))
      | str y => cases em; rw [(rt_str h).1] at go ⊢; exact go (by decide) (.base (.str y))
      | tup k l =>
        cases em
        obtain ⟨a, xs, rfl, s, r⟩ := rt_tup h
        refine go (by decide) ?_
        rcases s with ⟨_, ⟨_, s⟩ | ⟨_, o, _, s⟩⟩ | ⟨o, its, m, h1, h2, _⟩
        · exact .base (.tup s)
        · exact .fTuple s
        · exact .kTuple h1 h2
      | lst l => cases em; obtain ⟨a, xs, rfl, s, r⟩ := h; exact go (by decide) (.base (.lst s))
      | dic ks l => cases em; obtain ⟨a, xs, rfl, s, r⟩ := h; exact go (by decide) (.base (.dK s))
      | dit ks l => cases em
      | ins c fs l => cases em
      | fn q f c ws l => cases em
      | gfn i => cases em
      | frl l => cases em
    · cases e
  · cases e
def blL : List T → Option (List Bool)
  | [] => some []
  | .bl b :: l => (blL l).map (b :: ·)
  | _ :: _ => none
theorem rpl_bl : ∀ {l : List T} {bs : List Bool}, blL l = some bs → RpL W H av l xs → xs = bs.map V.bl := by
  intro l
  induction l generalizing xs with
  | nil => intro bs e r; cases e; have : xs = [] := by simpa only [RpL] using r
           exact this
  | cons t l ih =>
    intro bs e r
    cases t with
    | bl b =>
      obtain ⟨cs, ec, rfl⟩ := Option.map_eq_some_iff.mp e
      have r' : ∃ y ys, xs = y :: ys ∧ Rp W H av (.bl b) y ∧ RpL W H av l ys := by simpa only [RpL] using r
      obtain ⟨y, ys, rfl, r1, r2⟩ := r'
      have : y = .bl b := by simpa only [Rp] using r1
      rw [this, ih ec r2]; rfl
    | _ => cases e
def gAll : List T → Option Res
  | [.lst l] => (blL l).map fun bs => (.bl (bs.all id), false)
  | _ => none
def gAny : List T → Option Res
  | [.lst l] => (blL l).map fun bs => (.bl (bs.any id), false)
  | _ => none
theorem p_all : PrimOk W (rAll W.K) gAll := by
  intro av ts vs H Q res rt e tb tr q
  unfold gAll at e
  split at e
  · obtain ⟨bs, eb, rfl⟩ := Option.map_eq_some_iff.mp e
    obtain ⟨v, rfl, a, xs, rfl, s, r⟩ := rt.one
    exact ⟨a, bs, rfl, .inl (.inl (by rw [← rpl_bl eb r]; exact s)), q _ _ (.bl tb)⟩
  · cases e
theorem p_any : PrimOk W (rAny W.K) gAny := by
  intro av ts vs H Q res rt e tb tr q
  unfold gAny at e
  split at e
  · obtain ⟨bs, eb, rfl⟩ := Option.map_eq_some_iff.mp e
    obtain ⟨v, rfl, a, xs, rfl, s, r⟩ := rt.one
    exact ⟨a, bs, rfl, .inl (.inl (by rw [← rpl_bl eb r]; exact s)), q _ _ (.bl tb)⟩
  · cases e
def gAbs : List T → Option Res
  | [.int i] => some (.int (if i < 0 then -i else i), false)
  | _ => none
theorem p_abs : PrimOk W (fun xs H Q => ∃ i, xs = [.int i] ∧ Q (.int (if i < 0 then -i else i)) H) gAbs := by
  intro av ts vs H Q res rt e tb tr q
  unfold gAbs at e
  split at e
  · cases e
    obtain ⟨v, rfl, h⟩ := rt.one
    exact ⟨_, by rw [rt_int h], q _ _ (.int tb)⟩
  · cases e
def gMax2 : List T → Option Res
  | [.int i, .int j] => some (.int (if j > i then j else i), false)
  | _ => none
def gMin2 : List T → Option Res
  | [.int i, .int j] => some (.int (if j < i then j else i), false)
  | _ => none
theorem p_max2 : PrimOk W (fun xs H Q => ∃ i j, xs = [.int i, .int j] ∧ Q (.int (if j > i then j else i)) H) gMax2 := by
  intro av ts vs H Q res rt e tb tr q
  unfold gMax2 at e
  split at e
  · cases e
    obtain ⟨v, w, rfl, h1, h2⟩ := rt.two
    exact ⟨_, _, by rw [rt_int h1, rt_int h2], q _ _ (.int tb)⟩
  · cases e
theorem p_min2 : PrimOk W (fun xs H Q => ∃ i j, xs = [.int i, .int j] ∧ Q (.int (if j < i then j else i)) H) gMin2 := by
  intro av ts vs H Q res rt e tb tr q
  unfold gMin2 at e
  split at e
  · cases e
    obtain ⟨v, w, rfl, h1, h2⟩ := rt.two
    exact ⟨_, _, by rw [rt_int h1, rt_int h2], q _ _ (.int tb)⟩
  · cases e
def gInt : List T → Option Res
  | [.int i] => some (.int i, false)
  | [.bl b] => some (.int (if b = true then 1 else 0), false)
  | _ => none
theorem p_int : PrimOk W (fun xs H Q => (∃ i, xs = [.int i] ∧ Q (.int i) H) ∨ ∃ k, xs = [.bl k] ∧ Q (.int (if k then 1 else 0)) H) gInt := by
  intro av ts vs H Q res rt e tb tr q
  unfold gInt at e
  split at e
  · cases e
    obtain ⟨v, rfl, h⟩ := rt.one
    exact .inl ⟨_, by rw [rt_int h], q _ _ (.int tb)⟩
  · cases e
    obtain ⟨v, rfl, h⟩ := rt.one
    exact .inr ⟨_, by rw [rt_bl h], q _ _ (.int tb)⟩
  · cases e
def gDivmod : List T → Option Res
  | [.int i, .int j] => if cDiv i j = true then some (.tup false [.int (i / j), .int (i % j)], false) else none
  | _ => none
theorem p_divmod : PrimOk W (fun xs H Q => ∃ i j, xs = [.int i, .int j] ∧ CDiv i j ∧ ∀ p, H p = none → Q (.ref p) (upd H p (.tup [.int (i / j), .int (i % j)]))) gDivmod := by
  intro av ts vs H Q res rt e tb tr q
  unfold gDivmod at e
  split at e
  · split at e
    · rename_i h
      cases e
      obtain ⟨v, w, rfl, h1, h2⟩ := rt.two
      refine ⟨_, _, by rw [rt_int h1, rt_int h2], cDiv_ok _ _ h, fun p hp => q _ _ (.tup tr tb hp ?_)⟩
      exact .cons (by simp only [Rp]) (.one (by simp only [Rp]))
    · cases e
  · cases e
/-- tuple(xs), list(xs) -/
def gTupOf : List T → Option Res
  | [.lst l] => if l.length ≤ lim then some (.tup true l, false) else none
  | [.frl l] => if l.length ≤ lim then some (.tup true l, false) else none
  | _ => none
def rTupF (K : PySem.W.Frag) : List V → Hp → VK → Prop := fun xs H Q => ∃ p ys, xs = [.ref p] ∧ SqL K H p ys ∧ ∀ l o, o.dict = none → H l = none → Q (.ref l) (upd H l (.frz o (.tup ys)))
theorem call_tupF : CallR X (.type "tuple") (rTupF X.K) := by
  intro pins s σ H xs us Q I r h
  obtain ⟨p, ys, rfl, hq, q⟩ := h
  obtain ⟨u, rfl, rx⟩ := vals1 r
  cases rx
  obtain ⟨its, r', pl, hz⟩ := I.list hq
  have hlen := r'.length
  refine call_tuple_list pl.isList (fun h' kp => ?_) (by simp only [List.size_toArray] <;> omega)
  have I1 : Inv X pins σ H { s with heap := h' } := I.kept (t' := s.toks) kp
  have I2 : Inv X pins σ (upd H h'.objs.size (.frz { cls := .type "tuple", data := .seq its.toArray } (.tup ys))) { s with heap := h'.push { cls := .type "tuple", data := .seq its.toArray } } :=
    I1.laid (t' := s.toks) (fun b o e => Heap.get?_push_of_some _ e) (Nat.le_refl _) (show ObjOk X.prog X.w _ _ _ (.frz _ (.tup ys)) from ⟨Heap.get?_push_size _ rfl, hz, its, r', IsTup.new _ _⟩)
  exact ⟨.ref h'.objs.size, _, I2, rfl, q _ _ rfl (I1.hok.fresh (Nat.le_refl _))⟩
theorem RPost.tupF {o : Obj} (d : o.dict = none) (tr : ∀ a, av a → ¬ Nw H a) (tb : NdefX.TabsN W.tb H) (n : H p = none) (r : RpL W H av ts xs) : RPost W H av (upd H p (.frz o (.tup xs))) (.tup true ts, false) (.ref p) :=
  ⟨ExtN.upd n, tabs_new n tb, fun _ => by
    simp only [Rp]
    exact ⟨p, xs, rfl, .inl ⟨fun z => tr p z (.of n), .inr ⟨rfl, o, d, upd_same⟩⟩, r.ext (ExtN.upd n)⟩, fun z => nomatch z⟩
theorem p_tupOf : PrimOk W (rTupF W.K) gTupOf := by
  intro av ts vs H Q res rt e tb tr q
  unfold gTupOf at e
  split at e
  · split at e
    · cases e
      obtain ⟨v, rfl, a, xs, rfl, s, r⟩ := rt.one
      exact ⟨a, xs, rfl, .inl (.inl s), fun l o d hl => q _ _ (.tupF d tr tb hl r)⟩
    · cases e
  · split at e
    · cases e
      obtain ⟨v, rfl, h⟩ := rt.one
      obtain ⟨a, xs, rfl, s, r⟩ := rt_frl h
      exact ⟨a, xs, rfl, s.sq, fun l o d hl => q _ _ (.tupF d tr tb hl r)⟩
    · cases e
  · cases e
def gLstOf : List T → Option Res
  | [.lst l] => some (.lst l, true)
  | [.tup _ l] => some (.lst l, true)
  | [.frl l] => some (.lst l, true)
  | _ => none
theorem p_lstOf : PrimOk W (fun xs H Q => ∃ p ys, xs = [.ref p] ∧ (SqL W.K H p ys ∨ SqT W.K H p ys) ∧ ∀ l, H l = none → Q (.ref l) (upd H l (.lst ys))) gLstOf := by
  intro av ts vs H Q res rt e tb tr q
  unfold gLstOf at e
  split at e
  · cases e
    obtain ⟨v, rfl, a, xs, rfl, s, r⟩ := rt.one
    exact ⟨a, xs, rfl, .inl (.inl (.inl s)), fun l hl => q _ _ (.lst tb hl r)⟩
  · cases e
    obtain ⟨v, rfl, h⟩ := rt.one
    obtain ⟨a, xs, rfl, s, r⟩ := rt_tup h
    exact ⟨a, xs, rfl, .inr s.sq, fun l hl => q _ _ (.lst tb hl r)⟩
  · cases e
    obtain ⟨v, rfl, h⟩ := rt.one
    obtain ⟨a, xs, rfl, s, r⟩ := rt_frl h
    exact ⟨a, xs, rfl, .inl s.sq, fun l hl => q _ _ (.lst tb hl r)⟩
  · cases e
end
end Rv
end

section
set_option Elab.async false
set_option autoImplicit false
set_option linter.all false
set_option maxRecDepth 100000
set_option maxHeartbeats 1000000
/-! Rv10: enumerate over tuples, tuple.index, methods that change lists, displays, what is walked. -/
namespace Rv
open PySem PySem.Spec L2
open PyProof.Rows hiding St

/-! ### enumerate over a tuple -/
theorem meets_enum1 {v : Value} {o : Obj} {H : Heap → Prop} (B : Begins v o H) :
    Meets (Builtin.«enumerate.__new__» ⟨[.type "enumerate", v], []⟩) (fun _ R s => H s.heap ∧
      R (.ok (.ret (.ref (s.heap.push o).objs.size))) { s with heap := (s.heap.push o).push { cls := .type "enumerate", data := .fields #[.none, .bool false, .ref s.heap.objs.size, rawInt 0, .none, .none] } }) :=
  .of_wp fun prog w A R s h => by
    obtain ⟨hp, g, d, tk, os⟩ := s; obtain ⟨h1, h⟩ := h
    have hsub := sub_enumerate
    have q1 : ∀ {A' : Around} {E : Value → Shared → Prop} {Q : Value → Shared → Prop}, Q (.ref hp.objs.size) ⟨hp.push o, g, d, tk, os⟩ → wpAny (model prog w) A' (pyIter v) Q E ⟨hp, g, d, tk, os⟩ :=
      fun q => B.iter prog w _ _ ⟨hp, g, d, tk, os⟩ _ h1 q
    wp_walk using q1
    refine wpAny_stack_any fun st => wpAny_pure ?_
    split
    · rename_i c _ _ _ _ _
      cases (c == Value.type "enumerate")
      · wp_walk using q1
        exact ⟨_, rfl, h⟩
      · wp_walk using q1
        exact ⟨_, rfl, h⟩
    · wp_walk using q1
      exact ⟨_, rfl, h⟩
section
variable {prog : Program} {w : World} {A : Around} {E : Value → Shared → Prop} {s : Shared}
theorem enum1_begins {v : Value} {o : Obj} {H : Heap → Prop} {Q : Value → Shared → Prop} (B : Begins v o H) (h1 : H s.heap)
    (h : ∀ h', IsEnum h' (s.heap.objs.size + 1) s.heap.objs.size 0 .none → h'.get? s.heap.objs.size = some o → h'.objs.size = s.heap.objs.size + 2 →
      (∀ b o, s.heap.get? b = some o → h'.get? b = some o) → Q (.ref (s.heap.objs.size + 1)) { s with heap := h' }) :
    wpAny (model prog w) A (call (.type "enumerate") [v]) Q E s := by
  refine callType_new PySem.F.called_enumerate (by decide) (PySem.F.typeCall_enumerate_1 _) (PySem.F.newCall_enumerate_1 _) (fun obj => PySem.F.args_object_init_2 obj _) PySem.F.entry_enumerate_new
    (meets_enum1 B) ⟨h1, ?_⟩
  have hz : (s.heap.push o).objs.size = s.heap.objs.size + 1 := Heap.size_push ..
  show _ ∧ _
  rw [hz]
  have he : IsEnum ((s.heap.push o).push { cls := .type "enumerate", data := .fields #[.none, .bool false, .ref s.heap.objs.size, rawInt 0, .none, .none] }) (s.heap.objs.size + 1) s.heap.objs.size 0 .none := by
    have := Heap.get?_push_size (s.heap.push o) (o := { cls := .type "enumerate", data := .fields #[.none, .bool false, .ref s.heap.objs.size, rawInt 0, .none, .none] }) rfl
    rw [hz] at this; exact this
  refine ⟨⟨_, he, rfl⟩, h _ he (Heap.get?_push_of_some _ (Heap.get?_push_size _ B.free)) (by rw [Heap.size_push, hz]) fun b o x => Heap.get?_push_of_some _ (Heap.get?_push_of_some _ x)⟩
end
def IteT (K : PySem.W.Frag) (a : Addr) : It :=
  ⟨fun i H => ∃ (xs : List V) (x : V), SqT K H a xs ∧ xs[i]? = some x, fun i H v H' => ∃ T x, v = .ref T ∧ H T = none ∧ H' = upd H T (.tup [.int (i : Nat), x]) ∧ ∀ xs, SqT K H a xs → xs[i]? = some x, fun i H => ∃ xs : List V, SqT K H a xs ∧ xs.length ≤ i⟩
theorem turn_enumT {P : Program} {w : World} {K : PySem.W.Frag} {elts : List Expr} {kk : Nat} {tpos : Pos} (a e it : Addr) :
    Turn P w K (.Tuple elts kk tpos) (IteT K a) [e, it] e (fun i h => (∃ old, IsEnum h e it ((i : Nat) : Int) old) ∧ h.IsTupleIter it a i ∧ e ≠ it) where
  mem := by simp
  obj := fun i h st b hb => by
    obtain ⟨⟨old, he⟩, ⟨o, ho, hc, hd⟩, _⟩ := st
    have e' : b = e ∨ b = it := by simpa using hb
    rcases e' with z | z
    · rw [z]; exact ⟨_, he, fun v q => nomatch q⟩
    · rw [z]; exact ⟨o, ho, fun v q => by rw [hd] at q; cases q⟩
  keep := fun i h h' st k => let ⟨⟨old, he⟩, hi, hne⟩ := st; ⟨⟨old, k e (by simp) _ he⟩, hi.at fun o q => k it (by simp) o q, hne⟩
  item := by
    intro X hP hw hK hc i pins s σ H E I hf st hg
    subst hP hw hK
    obtain ⟨⟨old, he⟩, hit, hne⟩ := st
    obtain ⟨xs, x, hq, hx⟩ := hg
    obtain ⟨its, rv, p, hz⟩ := I.tuple hq
    obtain ⟨u, hu, ru⟩ := rv.get hx
    have hel : e < s.heap.objs.size := Heap.lt_size he
    have hil : it < s.heap.objs.size := by obtain ⟨_, q, _⟩ := hit; exact Heap.lt_size q
    have hat : a ≠ it := fun z => by
      obtain ⟨o, ho, hc', _⟩ := p
      obtain ⟨o2, ho2, hc2, _⟩ := hit
      rw [← z, ho] at ho2
      cases ho2
      rw [hc'] at hc2
      exact absurd (Value.type.inj hc2) (by decide)
    have hae : e ≠ a := fun z => by
      obtain ⟨o, ho, hc', _⟩ := p
      have he' : s.heap.get? e = some _ := he
      rw [z, ho] at he'
      cases he'
      exact absurd (Value.type.inj hc') (by decide)
    have D := Draws.tuple (prog := X.prog) (w := X.w) (A := X.A.in1) (I.ok.hd hc) it a hat its.toArray
    refine wpAny_pyNext_enum_itemD D he ⟨hit, p⟩ (i := i) (n := its.toArray.size) (by have := (List.getElem?_eq_some_iff.mp hu).1; simpa using this) hne (by simp [hne, hae]) fun x' h' tk hPx ho hst' hT hsz hk => ?_
    have ex : x' = u := by
      have : its.toArray[i]? = some x' := hPx
      rw [List.getElem?_toArray, hu] at this
      cases this; rfl
    subst ex
    refine ⟨_, rfl, wpAny_letOwnedTupleGo_enum (s := { s with heap := h', toks := tk + 1 }) ho fun h'' he' sb => ?_⟩
    have hT2 : h''.get? s.heap.objs.size = some { cls := .type "tuple", data := .seq #[.int i tk, x'] } := (sb.2 _ (Nat.ne_of_gt hel)).trans hT
    have new : ObjOk X.prog X.w (upd H s.heap.objs.size (.tup [.int (i : Nat), x])) h'' s.heap.objs.size (.tup [.int (i : Nat), x]) :=
      ⟨by show 2 ≤ sizeLine; decide, [.int i tk, x'], .cons ⟨_, rfl⟩ (.cons ru .nil), ⟨_, hT2, rfl, _, rfl⟩⟩
    have I1 : Inv X pins σ (upd H s.heap.objs.size (.tup [.int (i : Nat), x])) { s with heap := h'', toks := tk + 1 } :=
      I.turnedNew (ch := [e, it]) (fun b ob hb q => (sb.2 b (fun z => hb (by simp [z]))).trans (hk b ob (fun z => hb (by simp [z])) (fun z => hb (by simp [z])) q)) hf (Nat.le_refl _) new
    refine ⟨.ref s.heap.objs.size, _, I1, rfl, ⟨_, x, rfl, I.hok.fresh (Nat.le_refl _), rfl, fun ys hy => by rw [I.tuple_inj hy hq]; exact hx⟩, ⟨⟨x', ?_⟩, hst'.1.at fun o q => (sb.2 it (Ne.symm hne)).trans q, hne⟩, fun b hb => ?_⟩
    · have e1 : ((i + 1 : Nat) : Int) = (i : Int) + 1 := by omega
      rw [e1]; exact he'
    · have hb' : b < s.heap.objs.size := by
        have e' : b = e ∨ b = it := by simpa using hb
        rcases e' with z | z
        · rw [z]; exact hel
        · rw [z]; exact hil
      rw [upd_ne (Nat.ne_of_lt hb')]
      exact (hf b hb).1
  done := by
    intro X hP hw hK hc i pins s σ H E I hf st hg
    subst hP hw hK
    obtain ⟨⟨old, he⟩, hit, hne⟩ := st
    obtain ⟨xs, hq, hx⟩ := hg
    obtain ⟨its, rv, p, hz⟩ := I.tuple hq
    obtain ⟨f0, f1, f2, f3, f4, f5⟩ := hf it (by simp)
    have hl := rv.length
    have hT : s.TypeIs (.ref e) "enumerate" := ⟨_, he, rfl⟩
    unfold pyNext
    refine wpAny_bind (wpAny_attempt (wpAny_callSpecial?_slot (name := Str.ofString "__next__") hT PySem.F.slot_enumerate_next
      (wpAny_call_entry PySem.F.slot_enumerate_next hT PySem.F.entry_enumerate_next ?_ (PySem.F.args_enumerate_next_1 _))))
    show wpAny _ _ (field (.ref e) 2 >>= _) _ _ _
    refine wpAny_bind (wpAny_field he rfl (x := .ref it) rfl ?_)
    refine wpAny_bind (wpAny_nextOf_tuple_end (I.ok.hd hc) hit p (by simp; omega) fun h' x he' hx' => ?_)
    obtain ⟨o, ho, hc'⟩ := hx'
    refine wpAny_bind (wpAny_isInstance (T := "StopIteration") (b := true) ⟨o, ho, hc'⟩ isSubtype_stop ?_)
    exact wpAny_pure ⟨rfl, I.turned (t' := s.toks) (fun b o hb q => he' b o hb q) f0 f1 f3 f4 f5⟩
  self := fun A i s Q E st h => let ⟨⟨_, he⟩, _⟩ := st; wpAny_pyIter_enum he h
def iEnumT (K : PySem.W.Frag) (ta : TA) : TI := fun σ H R => ta σ H fun vs H1 => ∃ a xs, vs = [.ref a] ∧ SqT K H1 a xs ∧ R (IteT K a) H1
theorem pi_enumT {X : Cx} {e : Expr} {ta : TA} {p pos tpos : Pos} {elts : List Expr} {kk : Nat} (hg : Gl X "enumerate") (hm : X.mg "enumerate" = none) (ha : PA X [e] ta) (hs : starEach [e] X.env = [(false, eval e X.env)] := by rfl) :
    PI X (.Tuple elts kk tpos) (.Call (.Name "enumerate" p) [e] [] pos) (iEnumT X.K ta) := by
  refine ⟨fun pins s σ H R I h => ?_⟩
  refine Call_ (ld_blt I hg hm boot_enumerate (PyProof.Rows.callWith_type1 (thn (ha.run pos pins s σ H _ I h) fun us s1 ⟨vs, H1, I1, r1, q1⟩ => ?_) hs rfl))
  obtain ⟨a, xs, ex, hq, q⟩ := q1
  subst ex
  cases r1 with
  | cons r rr =>
    cases rr
    cases r
    obtain ⟨its, rv, p', hz⟩ := I1.tuple hq
    refine enum1_begins (begins_tuple a its.toArray) p' fun h' he hit hsz hk => wpAny_pyIter_enum he ?_
    have I2 : Inv X pins σ H1 { s1 with heap := h' } := I1.kept (t' := s1.toks) hk
    refine ⟨s1.heap.objs.size + 1, [s1.heap.objs.size + 1, s1.heap.objs.size], _, _, H1, rfl, I2, turn_enumT a (s1.heap.objs.size + 1) s1.heap.objs.size, ⟨⟨.none, he⟩, ⟨_, hit, rfl, rfl⟩, Nat.succ_ne_self _⟩, fun b hb => ?_, q⟩
    have e' : b = s1.heap.objs.size + 1 ∨ b = s1.heap.objs.size := by simpa using hb
    have hle : s1.heap.objs.size ≤ b := by
      rcases e' with z | z
      · rw [z]; exact Nat.le_succ _
      · rw [z]; exact Nat.le_refl _
    exact I1.fpOk hle (I1.hok.fresh hle)
end Rv
end

section
set_option Elab.async false
set_option autoImplicit false
set_option linter.all false
set_option maxRecDepth 100000
set_option maxHeartbeats 1000000
/-! Rv11: what is walked, methods that change lists, stores, displays, parallel stores, dict comprehensions. -/
namespace Rv
open PySem PySem.Spec L2
open PyProof.Rows hiding St

section
variable {W : Wd} {P : Hp} {C C' C1 : Av} {Z : Option Addr} {A A' A1 : Nat → Option Addr} {ρ ρ' ρ1 : Rho} {σ : St} {H H' H1 : Hp} {t : T} {ts l : List T} {v : V} {vs xs : List V} {o : Own} {i : Nat} {p a : Addr} {av0 : Av}
/-! ### what is walked -/
theorem Mv.pc (m : Mv W P C Z A ρ' σ H H1 C1 A1) {a : Addr} {o : HO} (n : ¬ av C1 A1 a) (e : H1 a = some o) (t : isTbl o = false) : Pc H1 A1 C a = some o := by
  unfold Pc
  rw [if_neg fun z => n (.inl (m.up a z))]
  exact Pf_some e t fun i z => n (.inr ⟨i, z⟩)
theorem Mv.els (m : Mv W P C Z A ρ' σ H H1 C1 A1) (r : RpL W H1 (av C1 A1) l xs) {Hx : Hp} (k : ∀ a o, Pc H1 A1 C a = some o → Hx a = some o) {av' : Av} (h : ∀ a, av' a → ¬ Nw Hx a ∧ (av C1 A1 a ∨ Pc H1 A1 C a = none)) : RpL W Hx av' l xs := by
  have r1 : RpL W H1 (fun a => av C1 A1 a ∨ av' a) l xs := r.avoid (av' := fun a => av C1 A1 a ∨ av' a) (fun a z => by
    rcases z with z | z
    · exact .inl z
    · rcases (h a z).2 with q | q
      · exact .inl q
      · by_cases w : av C1 A1 a
        · exact .inl w
        · refine .inr fun o e => ?_
          cases t : isTbl o with
          | true => rfl
          | false => rw [m.pc w e t] at q; cases q) _ _
  exact r1.move (fun a z => .inr z) (fun a o n e t => k a o (m.pc (fun z => n (.inl z)) e t)) _ _
section
variable {K : PySem.W.Frag} {J : It}
theorem itOk_of {sq : Hp → Prop} (hq : ∀ Hx, (∀ a o, P a = some o → Hx a = some o) → sq Hx)
    (hel : ∀ Hx, (∀ a o, P a = some o → Hx a = some o) → ∀ av' : Av, (∀ a, av' a → ¬ Nw Hx a ∧ (av0 a ∨ P a = none)) → RpL W Hx av' ts xs) (hl : xs.length = ts.length)
    (hgo : ∀ i x H, sq H → xs[i]? = some x → J.go i H) (hy : ∀ i x H v H', sq H → xs[i]? = some x → J.yld i H v H' → H' = H ∧ v = x) (hs : ∀ H, sq H → J.stop xs.length H) : ItOk W P av0 J ts where
  go := fun i t H e k => by
    have hi : i < xs.length := by rw [hl]; exact (List.getElem?_eq_some_iff.mp e).1
    exact hgo i _ H (hq H k) (List.getElem?_eq_getElem hi)
  yld := fun i t H v H' e k tb y => by
    have hi : i < xs.length := by rw [hl]; exact (List.getElem?_eq_some_iff.mp e).1
    obtain ⟨rfl, rfl⟩ := hy i _ H v H' (hq H k) (List.getElem?_eq_getElem hi) y
    refine ⟨.refl _, tb, fun av' z => ?_⟩
    obtain ⟨v, ev, rv⟩ := (hel _ k av' z).get e
    rw [List.getElem?_eq_getElem hi] at ev
    cases ev
    exact rv
  stop := fun H k => by rw [← hl]; exact hs H (hq H k)
theorem itl_of {a : Addr} (hq : ∀ Hx, (∀ a o, P a = some o → Hx a = some o) → SqL W.K Hx a xs)
    (hel : ∀ Hx, (∀ a o, P a = some o → Hx a = some o) → ∀ av' : Av, (∀ a, av' a → ¬ Nw Hx a ∧ (av0 a ∨ P a = none)) → RpL W Hx av' ts xs) (hl : xs.length = ts.length) : ItOk W P av0 (Itl W.K a) ts :=
  itOk_of hq hel hl (fun i x H s e => ⟨xs, x, s, e⟩) (fun i x H v H' s e y => ⟨y.1, by have := y.2 xs s; rw [e] at this; cases this; rfl⟩) fun H s => ⟨xs, s, Nat.le_refl _⟩
theorem itt_of {a : Addr} (hq : ∀ Hx, (∀ a o, P a = some o → Hx a = some o) → SqT W.K Hx a xs)
    (hel : ∀ Hx, (∀ a o, P a = some o → Hx a = some o) → ∀ av' : Av, (∀ a, av' a → ¬ Nw Hx a ∧ (av0 a ∨ P a = none)) → RpL W Hx av' ts xs) (hl : xs.length = ts.length) : ItOk W P av0 (Itt W.K a) ts :=
  itOk_of hq hel hl (fun i x H s e => ⟨xs, x, s, e⟩) (fun i x H v H' s e y => ⟨y.1, by have := y.2 xs s; rw [e] at this; cases this; rfl⟩) fun H s => ⟨xs, s, Nat.le_refl _⟩
end
/-- a list or a tuple -/
def iSeq (K : PySem.W.Frag) (tl : TE) : TI := fun σ H R => tl σ H fun x H1 => ∃ a, x = .ref a ∧ (((∃ xs, SqL K H1 a xs) ∧ R (Itl K a) H1) ∨ ((∃ xs, SqT K H1 a xs) ∧ R (Itt K a) H1))
theorem pi_seq {X : Cx} {tg l : Expr} {tl : TE} (hl : PE X l tl) : PI X tg l (iSeq X.K tl) := by
  refine ⟨fun pins s σ H R I h => ?_⟩
  refine thn (hl.run pins s σ H _ I h) fun v s1 ⟨x, H1, I1, r1, q1⟩ => ?_
  obtain ⟨a, e, q⟩ := q1
  subst e
  cases r1
  rcases q with ⟨⟨xs, hq⟩, q⟩ | ⟨⟨xs, hq⟩, q⟩
  · obtain ⟨its, rv, p, hz⟩ := I1.list hq
    refine wpAny_pyIter_list p.isList ?_
    refine ⟨s1.heap.objs.size, [s1.heap.objs.size], _, _, H1, rfl, I1.kept (t' := s1.toks) fun b o e => Heap.get?_push_of_some _ e, turn_list a _, ⟨_, Heap.get?_push_size _ rfl, rfl, rfl⟩, fun b hb => ?_, q⟩
    have e : b = s1.heap.objs.size := by simpa using hb
    subst e
    exact I1.fpOk (Nat.le_refl _) (I1.hok.fresh (Nat.le_refl _))
  · obtain ⟨its, rv, p, hz⟩ := I1.tuple hq
    refine wpAny_pyIter_tuple (show s1.heap.IsTuple a its.toArray from p) ?_
    refine ⟨s1.heap.objs.size, [s1.heap.objs.size], _, _, H1, rfl, I1.kept (t' := s1.toks) fun b o e => Heap.get?_push_of_some _ e, turn_tuple a _, ⟨_, Heap.get?_push_size _ rfl, rfl, rfl⟩, fun b hb => ?_, q⟩
    have e : b = s1.heap.objs.size := by simpa using hb
    subst e
    exact I1.fpOk (Nat.le_refl _) (I1.hok.fresh (Nat.le_refl _))
def srcM (f : M) : SrcM := fun ρ => match f ρ with
  | some ((.lst l, _), ρ') => some (l, ρ')
  | some ((.frl l, false), ρ') => some (l, ρ')
  | some ((.tup _ l, false), ρ') => some (l, ρ')
  | _ => none
theorem Mv.tupQ {k : Bool} (m : Mv W P C Z A ρ' σ H H1 C1 A1) {a : Addr} (s : SqTa W.K H1 (av C1 A1) k a xs) : ∀ Hx, (∀ a o, Pc H1 A1 C a = some o → Hx a = some o) → SqT W.K Hx a xs := fun Hx kk => by
  rcases s with ⟨n, ⟨q, s⟩ | ⟨q, o, d, s⟩⟩ | s
  · exact .inl (.inl (kk _ _ (m.pc n s rfl)))
  · exact .inl (.inr ⟨o, kk _ _ (m.pc n s rfl)⟩)
  · obtain ⟨o, its, n, h1, h2, _, h3, h4, h5⟩ := s
    exact .inr ⟨o, its, n, h1, h2, h3, h4, h5⟩
theorem Mv.lstQ (m : Mv W P C Z A ρ' σ H H1 C1 A1) {a : Addr} (s : SqLa W.K H1 (av C1 A1) a xs) : ∀ Hx, (∀ a o, Pc H1 A1 C a = some o → Hx a = some o) → SqL W.K Hx a xs := fun Hx kk => by
  rcases s with ⟨n, s | ⟨o, s⟩⟩ | s
  · exact .inl (.inl (kk _ _ (m.pc n s rfl)))
  · exact .inl (.inr ⟨o, kk _ _ (m.pc n s rfl)⟩)
  · exact .inr s
theorem src_ok {f : M} {R : It → Hp → Prop} (h : tI W (srcM f) σ H R) : iSeq W.K (tOf W f) σ H R := by
  obtain ⟨P, C, Z, A, ρ, ts, ρ', S, e, q⟩ := h
  unfold srcM at e
  split at e
  · rename_i l b ρ1 hf
    cases e
    refine ⟨P, C, Z, A, ρ, _, _, S, hf, fun v H1 C1 A1 m o => ?_⟩
    unfold OV at o
    split at o
    · obtain ⟨p, rfl, n, hc, xs, ep, rl⟩ := o
      refine ⟨p, rfl, .inl ⟨⟨xs, .inl (.inl ep)⟩, q _ H1 C1 A1 m (itl_of (fun Hx k => .inl (.inl (k _ _ ?_))) (fun Hx k av' z => m.els rl k z) rl.length)⟩⟩
      unfold Pc
      rw [if_neg fun z => S.ctr p z n]
      exact Pf_some ep rfl fun i z => m.sr.dis i p z hc
    · have o' : Rp W H1 (av C1 A1) (T.lst ts) v := o
      simp only [Rp] at o'
      obtain ⟨p, xs, rfl, np, ep, rl⟩ := o'
      exact ⟨p, rfl, .inl ⟨⟨xs, .inl (.inl ep)⟩, q _ H1 C1 A1 m (itl_of (m.lstQ (.inl ⟨np, .inl ep⟩)) (fun Hx k av' z => m.els rl k z) rl.length)⟩⟩
  · rename_i l ρ1 hf
    cases e
    refine ⟨P, C, Z, A, ρ, _, _, S, hf, fun v H1 C1 A1 m o => ?_⟩
    have o' : Rp W H1 (av C1 A1) (T.frl ts) v := o
    simp only [Rp] at o'
    obtain ⟨p, xs, rfl, s, rl⟩ := o'
    exact ⟨p, rfl, .inl ⟨⟨xs, s.sq⟩, q _ H1 C1 A1 m (itl_of (m.lstQ s) (fun Hx k av' z => m.els rl k z) rl.length)⟩⟩
  · rename_i kk l ρ1 hf
    cases e
    refine ⟨P, C, Z, A, ρ, _, _, S, hf, fun v H1 C1 A1 m o => ?_⟩
    have o' : Rp W H1 (av C1 A1) (T.tup kk ts) v := o
    simp only [Rp] at o'
    obtain ⟨p, xs, rfl, s, rl⟩ := o'
    exact ⟨p, rfl, .inr ⟨⟨xs, s.sq⟩, q _ H1 C1 A1 m (itt_of (m.tupQ s) (fun Hx k av' z => m.els rl k z) rl.length)⟩⟩
  · cases e
/-- enumerate of a tuple -/
def enumL : Nat → List T → List T
  | _, [] => []
  | n, t :: ts => .tup false [.int n, t] :: enumL (n + 1) ts
theorem enumL_len : ∀ (n : Nat) (ts : List T), (enumL n ts).length = ts.length
  | _, [] => rfl
  | n, t :: ts => by simp [enumL, enumL_len (n + 1) ts]
theorem enumL_get : ∀ (n i : Nat) (ts : List T) (t : T), (enumL n ts)[i]? = some t → ∃ u, ts[i]? = some u ∧ t = .tup false [.int ((n + i : Nat)), u]
  | n, i, [], t, e => by simp [enumL] at e
  | n, 0, u :: ts, t, e => by
    simp [enumL] at e
    exact ⟨u, rfl, by rw [← e]; simp⟩
  | n, i + 1, u :: ts, t, e => by
    obtain ⟨w, h1, h2⟩ := enumL_get (n + 1) i ts t (by simpa [enumL] using e)
    exact ⟨w, by simpa using h1, by rw [h2]; congr 3; simp; omega⟩
def enumM (f : M) : SrcM := fun ρ => match f ρ with
  | some ((.tup _ l, false), ρ') => some (enumL 0 l, ρ')
  | _ => none
theorem enum_ok {f : M} {R : It → Hp → Prop} (h : tI W (enumM f) σ H R) : iEnumT W.K (tCons (tOf W f) tNil) σ H R := by
  obtain ⟨P, C, Z, A, ρ, ts, ρ', S, e, q⟩ := h
  unfold enumM at e
  split at e
  · rename_i kk l ρ1 hf
    cases e
    refine ⟨P, C, Z, A, ρ, _, _, S, hf, fun v H1 C1 A1 m o => ?_⟩
    have o' : Rp W H1 (av C1 A1) (T.tup kk l) v := o
    simp only [Rp] at o'
    obtain ⟨p, xs, rfl, s, rl⟩ := o'
    have hq := m.tupQ s
    have hl := rl.length
    refine ⟨p, xs, rfl, s.sq, q _ H1 C1 A1 m ⟨fun i t H e k => ?_, fun i t H v H' e k tb y => ?_, fun H k => ?_⟩⟩
    · obtain ⟨u, hu, _⟩ := enumL_get _ _ _ _ e
      have hi : i < xs.length := by rw [hl]; exact (List.getElem?_eq_some_iff.mp hu).1
      exact ⟨xs, _, hq H k, List.getElem?_eq_getElem hi⟩
    · obtain ⟨u, hu, rfl⟩ := enumL_get _ _ _ _ e
      obtain ⟨T0, x, rfl, hT, rfl, hx⟩ := y
      refine ⟨ExtN.upd hT, tabs_new hT tb, fun av' z => ?_⟩
      obtain ⟨w, ew, rw⟩ := (m.els rl k z).get hu
      have := hx xs (hq H k)
      rw [ew] at this
      cases this
      simp only [Rp]
      exact ⟨T0, _, rfl, .inl ⟨fun w => (z T0 w).1 (.of hT), .inl ⟨rfl, upd_same⟩⟩, .cons (by simp only [Rp]; simp) (.one (rw.ext (ExtN.upd hT)))⟩
    · exact ⟨xs, hq H k, by rw [enumL_len, hl]; exact Nat.le_refl _⟩
  · cases e
def intsT (lo : Int) (n : Nat) : List T := (List.range n).map fun i => .int (lo + (i : Nat))
theorem itr_ok {lo : Int} {n : Nat} : ItOk W P av0 (Itr lo n) (intsT lo n) where
  go := fun i t H e k => by
    have := (List.getElem?_eq_some_iff.mp e).1
    show i < n
    simpa [intsT] using this
  yld := fun i t H v H' e k tb y => by
    obtain ⟨rfl, rfl⟩ := y
    refine ⟨.refl _, tb, fun av' z => ?_⟩
    unfold intsT at e
    rw [List.getElem?_map] at e
    obtain ⟨j, hj, rfl⟩ := Option.map_eq_some_iff.mp e
    have : j = i := by
      rw [List.getElem?_range (by have := (List.getElem?_eq_some_iff.mp hj).1; simpa using this)] at hj
      cases hj; rfl
    subst this
    simp only [Rp]
  stop := fun H k => by show n ≤ (intsT lo n).length; simp [intsT]
def r62 (j : Int) : Bool := decide (-(2 ^ 62) ≤ j) && decide (j < 2 ^ 62)
def rng1M (o : Op) : SrcM := fun ρ => match opsM [o] ρ with
  | some (rs, ρ') => (match resolves ρ' rs with
    | some [.int j] => if r62 j = true then some (intsT 0 j.toNat, ρ') else none
    | _ => none)
  | none => none
def rng2M (o o2 : Op) : SrcM := fun ρ => match opsM [o, o2] ρ with
  | some (rs, ρ') => (match resolves ρ' rs with
    | some [.int i, .int j] => if r62 i = true ∧ r62 j = true then some (intsT i (j - i).toNat, ρ') else none
    | _ => none)
  | none => none
theorem rng1_ok {o : Op} {R : It → Hp → Prop} (h : tI W (rng1M o) σ H R) : iRng1 (tOs W [o]) σ H R := by
  obtain ⟨P, C, Z, A, ρ, ts, ρ', S, e, q⟩ := h
  unfold rng1M at e
  split at e
  · rename_i rs ρ1 ho
    split at e
    · rename_i j hr
      split at e
      · rename_i hj
        cases e
        refine ops_ok S ho fun vs H1 C1 A1 m o => ?_
        obtain ⟨v, rfl, hv⟩ := (o.rt m.sr hr).one
        rw [rt_int hv]
        unfold r62 at hj
        simp only [Bool.and_eq_true, decide_eq_true_eq] at hj
        exact ⟨j, rfl, hj.1, hj.2, q _ H1 C1 A1 m itr_ok⟩
      · cases e
    · cases e
  · cases e
theorem rng2_ok {o o2 : Op} {R : It → Hp → Prop} (h : tI W (rng2M o o2) σ H R) : iRng2 (tOs W [o, o2]) σ H R := by
  obtain ⟨P, C, Z, A, ρ, ts, ρ', S, e, q⟩ := h
  unfold rng2M at e
  split at e
  · rename_i rs ρ1 ho
    split at e
    · rename_i i j hr
      split at e
      · rename_i hj
        cases e
        refine ops_ok S ho fun vs H1 C1 A1 m o => ?_
        obtain ⟨v, w, rfl, hv, hw⟩ := (o.rt m.sr hr).two
        rw [rt_int hv, rt_int hw]
        unfold r62 at hj
        simp only [Bool.and_eq_true, decide_eq_true_eq] at hj
        exact ⟨i, j, rfl, ⟨hj.1.1, hj.1.2, hj.2.1, hj.2.2⟩, q _ H1 C1 A1 m itr_ok⟩
      · cases e
    · cases e
  · cases e
def signsT (x : Str) : List T := x.cps.toList.map fun c => .str ⟨#[c]⟩
def strM (f : M) : SrcM := fun ρ => match f ρ with
  | some ((.str x, false), ρ') => some (signsT x, ρ')
  | _ => none
theorem strM_ok {f : M} {R : It → Hp → Prop} (h : tI W (strM f) σ H R) : iStr (tOf W f) σ H R := by
  obtain ⟨P, C, Z, A, ρ, ts, ρ', S, e, q⟩ := h
  unfold strM at e
  split at e
  · rename_i x ρ1 hf
    cases e
    refine ⟨P, C, Z, A, ρ, _, _, S, hf, fun v H1 C1 A1 m o => ?_⟩
    have o' : Rp W H1 (av C1 A1) (T.str x) v := o
    simp only [Rp] at o'
    obtain ⟨rfl, ok⟩ := o'
    refine ⟨x, rfl, q _ H1 C1 A1 m ⟨fun i t H e k => ?_, fun i t H v H' e k tb y => ?_, fun H k => ?_⟩⟩
    · have := (List.getElem?_eq_some_iff.mp e).1
      show i < x.cps.size
      simpa [signsT] using this
    · obtain ⟨rfl, c, hc, rfl⟩ := y
      refine ⟨.refl _, tb, fun av' z => ?_⟩
      unfold signsT at e
      rw [List.getElem?_map] at e
      obtain ⟨d, hd, rfl⟩ := Option.map_eq_some_iff.mp e
      have : c = d := by
        rw [Array.getElem?_toList, hc] at hd
        cases hd; rfl
      subst this
      simp only [Rp, true_and]
      exact sOk_sign ok (List.mem_of_getElem? hd)
    · show x.cps.size ≤ (signsT x).length; simp [signsT]
  · cases e
end
end Rv
end

section
set_option Elab.async false
set_option autoImplicit false
set_option linter.all false
set_option maxRecDepth 100000
set_option maxHeartbeats 1000000
/-! Rv12: methods that change lists, stores, displays, parallel stores, dict displays and comprehensions. -/
namespace Rv
open PySem PySem.Spec L2
open PyProof.Rows hiding St

section
variable {W : Wd} {P : Hp} {C C' C1 : Av} {Z : Option Addr} {A A' A1 : Nat → Option Addr} {ρ ρ' ρ1 : Rho} {σ : St} {H H' H1 : Hp} {t : T} {ts l : List T} {v : V} {vs xs : List V} {o : Own} {i : Nat} {p a : Addr} {av0 : Av}
theorem ObL.one {av : Av} {r : Res} (h : ObL W H av [r] vs) : ∃ v, vs = [v] ∧ Ob W H av r v := by
  obtain ⟨v, ws, rfl, h1, h2⟩ := h
  have h2 : ws = [] := h2
  subst h2
  exact ⟨v, rfl, h1⟩
theorem ObL.two {av : Av} {r r2 : Res} (h : ObL W H av [r, r2] vs) : ∃ v w, vs = [v, w] ∧ Ob W H av r v ∧ Ob W H av r2 w := by
  obtain ⟨v, ws, rfl, h1, h2⟩ := h
  obtain ⟨w, rfl, h3⟩ := ObL.one h2
  exact ⟨v, w, rfl, h1, h3⟩
theorem Ob.lst {av : Av} {b : Bool} (h : Ob W H av (.lst l, b) v) : ∃ q xs, v = .ref q ∧ H q = some (.lst xs) ∧ RpL W H av l xs := by
  unfold Ob at h
  split at h
  · obtain ⟨q, rfl, n, xs, e, r⟩ := h; exact ⟨q, xs, rfl, e, r⟩
  · have h : Rp W H av (.lst l) v := h
    simp only [Rp] at h
    obtain ⟨q, xs, rfl, n, e, r⟩ := h
    exact ⟨q, xs, rfl, e, r⟩
/-! ### methods that change a list -/
def gAppend : T → List Res → Option (T × T)
  | .lst l, [r] => if l.length < lim then some (.lst (l ++ [r.1]), .non) else none
  | _, _ => none
theorem mu_append : MutOk W rAppend gAppend := by
  intro av p t ts vs H Q t' res hp c o e q
  unfold gAppend at e
  split at e
  · split at e
    · rename_i hl
      cases e
      obtain ⟨xs, ex, rl⟩ := c
      obtain ⟨v, rfl, ov⟩ := o.one
      refine ⟨p, xs, v, rfl, rfl, ex, by rw [← lim_eq, rl.length]; exact hl, q .non _ rfl ⟨_, upd_same, (rl.append (.one ov.rp)).upd hp⟩ (by simp only [Rp])⟩
    · cases e
  · cases e
def gPop : T → List Res → Option (T × T)
  | .lst l, [] => match l[l.length - 1]? with
    | some t => some (.lst l.dropLast, t)
    | none => none
  | _, _ => none
theorem RpL.dropLast {av : Av} : ∀ {ts : List T} {xs : List V}, RpL W H av ts xs → RpL W H av ts.dropLast xs.dropLast := fun {ts xs} r => by
  rw [List.dropLast_eq_take, List.dropLast_eq_take, r.length]
  exact r.take _
theorem mu_pop : MutOk W rPop gPop := by
  intro av p t ts vs H Q t' res hp c o e q
  unfold gPop at e
  split at e
  · rename_i l
    split at e
    · rename_i t0 hl
      cases e
      obtain ⟨xs, ex, rl⟩ := c
      have o : vs = [] := o
      subst o
      obtain ⟨y, ey, ry⟩ := rl.get hl
      exact ⟨p, xs, y, rfl, rfl, ex, by rw [rl.length]; exact ey, q y _ rfl ⟨_, upd_same, rl.dropLast.upd hp⟩ (ry.upd hp)⟩
    · cases e
  · cases e
def gExtend : T → List Res → Option (T × T)
  | .lst l, [(.lst l2, _)] => if l.length + l2.length ≤ lim then some (.lst (l ++ l2), .non) else none
  | _, _ => none
theorem mu_extend : MutOk W rExtend gExtend := by
  intro av p t ts vs H Q t' res hp c o e q
  unfold gExtend at e
  split at e
  · split at e
    · rename_i hl
      cases e
      obtain ⟨xs, ex, rl⟩ := c
      obtain ⟨v, rfl, ov⟩ := o.one
      obtain ⟨b, zs, rfl, eb, rb⟩ := ov.lst
      refine ⟨p, b, xs, zs, rfl, rfl, ex, eb, by rw [← lim_eq, rl.length, rb.length]; exact hl, q .non _ rfl ⟨_, upd_same, (rl.append rb).upd hp⟩ (by simp only [Rp])⟩
    · cases e
  · cases e
/-! ### o[k] = e -/
def gSetL : T → List Res → Option (T × T)
  | .lst l, [r, (.int k, false)] => match ixN l.length k with
    | some j => some (.lst (l.set j r.1), .non)
    | none => none
  | _, _ => none
theorem Ob.int {av : Av} {k : Int} (h : Ob W H av (.int k, false) v) : v = .int k := by
  have h : Rp W H av (.int k) v := h
  simpa only [Rp] using h
theorem mu_setL : MutOk W (fun o vs H Q => ∃ x ix, vs = [x, ix] ∧ rSetL o ix x H fun H' => Q .non H') gSetL := by
  intro av p t ts vs H Q t' res hp c o e q
  unfold gSetL at e
  split at e
  · split at e
    · rename_i j hj
      cases e
      obtain ⟨xs, ex, rl⟩ := c
      obtain ⟨v, w, rfl, ov, ow⟩ := o.two
      rw [ow.int]
      refine ⟨v, _, rfl, p, xs, _, j, rfl, rfl, ex, by rw [rl.length]; exact hj, q .non _ rfl ⟨_, upd_same, (RpL.set ov.rp j rl).upd hp⟩ (by simp only [Rp])⟩
    · cases e
  · cases e
theorem setL_mono (o ix x : V) (H : Hp) (Q Q' : Hp → Prop) (h : rSetL o ix x H Q) (k : ∀ H, Q H → Q' H) : rSetL o ix x H Q' := by
  obtain ⟨p, xs, kk, j, e1, e2, e3, e4, q⟩ := h
  exact ⟨p, xs, kk, j, e1, e2, e3, e4, k _ q⟩
theorem setL_ok {e k : Op} {D : Ends} (h : tSf W (dropM (mutM i [e, k] gSetL)) D σ H) : tAsg (tO W e) (gSub (tVar i) (tO W k) rSetL) D σ H := setItem_ok mu_setL setL_mono h
/-! ### d[k] = e -/
def putL {α β : Type} [DecidableEq α] (ks : List α) (l : List β) (k : α) (v : β) : List α × List β :=
  if hasK ks k = true then (ks, (ks.zip l).map fun p => if p.1 = k then v else p.2) else (ks ++ [k], l ++ [v])
theorem putK_fst {κ : Type} [DecidableEq κ] {kvs : List (κ × V)} {k : κ} {v : V} {l : List T} {t : T} : (putK kvs k v).map (·.1) = (putL (kvs.map (·.1)) l k t).1 := by
  unfold putK putL hasK
  rw [List.any_map]
  have : (kvs.any fun kv => decide (kv.1 = k)) = kvs.any ((fun j => decide (j = k)) ∘ fun x => x.1) := rfl
  rw [← this]
  split
  · rw [List.map_map]
    apply List.map_congr_left
    intro x _
    simp only [Function.comp]
    split <;> rfl
  · simp
theorem putK_rp {κ : Type} [DecidableEq κ] {av : Av} {k : κ} {v : V} {t : T} (rt : Rp W H av t v) {kvs : List (κ × V)} {l : List T} (r : RpL W H av l (kvs.map (·.2))) : RpL W H av (putL (kvs.map (·.1)) l k t).2 ((putK kvs k v).map (·.2)) := by
  unfold putK putL hasK
  rw [List.any_map]
  have : (kvs.any fun kv => decide (kv.1 = k)) = kvs.any ((fun j => decide (j = k)) ∘ fun x => x.1) := rfl
  rw [← this]
  split
  · clear this
    rename_i h; clear h
    induction kvs generalizing l with
    | nil => simp only [List.map_nil, List.zip_nil_left]; exact RpL.nil
    | cons kv kvs ih =>
      cases l with
      | nil => simp only [RpL] at r; cases r
      | cons u l =>
        have r' : ∃ y ys, kv.2 :: kvs.map (·.2) = y :: ys ∧ Rp W H av u y ∧ RpL W H av l ys := by simpa only [RpL, List.map_cons] using r
        obtain ⟨y, ys, ee, r1, r2⟩ := r'
        cases ee
        simp only [List.map_cons, List.zip_cons_cons]
        refine .cons ?_ (ih r2)
        split
        · exact rt
        · exact r1
  · simp only [List.map_append, List.map_cons, List.map_nil]
    exact r.append (.one rt)
def gDPut : T → List Res → Option (T × T)
  | .dic ks l, [r, (x, false)] => match kOf x with
    | some k => if ks.length < lim then some (.dic (putL ks l k r.1).1 (putL ks l k r.1).2, .non) else none
    | none => none
  | _, _ => none
theorem mu_dput : MutOk W (fun o vs H Q => ∃ x y a H', vs = [x, y] ∧ o = .ref a ∧ DPut H a y x H' ∧ Q .non H') gDPut := by
  intro av p t ts vs H Q t' res hp c o e q
  unfold gDPut at e
  split at e
  · split at e
    · rename_i k hk
      split at e
      · rename_i hl
        cases e
        obtain ⟨kvs, ex, rfl, rl⟩ := c
        obtain ⟨v, w, rfl, ov, ow⟩ := o.two
        have ek : w = kV k := rt_key hk (show Rp W H av _ w from ow).rt
        subst ek
        refine ⟨v, _, p, _, rfl, rfl, .inl ⟨kvs, k, ex, rfl, by rw [← lim_eq]; rw [List.length_map] at hl; exact hl, rfl⟩, q .non _ rfl ⟨_, upd_same, putK_fst, (putK_rp ov.rp rl).upd hp⟩ (by simp only [Rp])⟩
      · cases e
    · cases e
  · cases e
/-! ### displays -/
def gMkT (ts : List T) : Option Res := if ts.length ≤ lim then some (.tup false ts, false) else none
def gMkL (ts : List T) : Option Res := if ts.length ≤ lim then some (.lst ts, true) else none
theorem s_tup : StoreOk W (fun xs H Q => xs.length ≤ sizeLine ∧ ∀ p, H p = none → Q (.ref p) (upd H p (.tup xs))) gMkT := by
  intro av ts vs H Q res r e tb tr q
  unfold gMkT at e
  split at e
  · rename_i hl
    cases e
    exact ⟨by rw [r.length, ← lim_eq]; exact hl, fun p hp => q _ _ (.tup tr tb hp r)⟩
  · cases e
theorem s_lst : StoreOk W (fun xs H Q => xs.length ≤ sizeLine ∧ ∀ p, H p = none → Q (.ref p) (upd H p (.lst xs))) gMkL := by
  intro av ts vs H Q res r e tb tr q
  unfold gMkL at e
  split at e
  · rename_i hl
    cases e
    exact ⟨by rw [r.length, ← lim_eq]; exact hl, fun p hp => q _ _ (.lst tb hp r)⟩
  · cases e
theorem RpL.stay {C2 : Av} {A2 : Nat → Option Addr} {H2 : Hp} (m1 : SR W P C1 Z A1 ρ1 σ H1) (m2 : Mv W (Pf H1 A1) C1 Z A1 ρ' σ H1 H2 C2 A2) (r : RpL W H1 (av C1 A1) l xs) : RpL W H2 (av C2 A2) l xs := by
  have hav : ∀ a, av C2 A2 a → av C1 A1 a ∨ Nw H1 a := fun a z => z.elim (fun z => (m2.dn a z).elim (fun z => .inl (.inl z)) .inr) fun ⟨i, e⟩ => .inl (.inr ⟨i, m2.subA i a e⟩)
  exact (r.avoid (av' := fun a => av C2 A2 a ∨ av C1 A1 a) (fun a z => z.elim (hav a) .inl) l xs).move (fun a z => .inl z) (fun a o n e q => m2.sr.keep a o (Pf_some e q fun i z => n (.inr (.inr ⟨i, z⟩)))) l xs
def starM (f g : M) : M := fun ρ => match f ρ with
  | some ((.tup _ l, false), ρ1) => (match g ρ1 with
    | some (r, ρ2) => if l.length < lim then some ((.tup false (l ++ [r.1]), false), ρ2) else none
    | none => none)
  | _ => none
theorem star_ok {f g : M} {Q : VK} (h : tOf W (starM f g) σ H Q) : tTup (StX.tStar W.K (tOf W f) (tCons (tOf W g) tNil)) σ H Q := by
  obtain ⟨P, C, Z, A, ρ, rr, ρ', S, e, q⟩ := h
  unfold starM at e
  split at e
  · rename_i kk l ρ1 hf
    split at e
    · rename_i r ρ2 hg
      split at e
      · rename_i hl
        cases e
        refine ⟨P, C, Z, A, ρ, _, ρ1, S, hf, fun v H1 C1 A1 m1 o1 => ?_⟩
        have o' : Rp W H1 (av C1 A1) (T.tup kk l) v := o1
        simp only [Rp] at o'
        obtain ⟨a, xs, rfl, s, rl⟩ := o'
        refine ⟨a, xs, rfl, .inl s.sq, Pf H1 A1, C1, Z, A1, ρ1, r, _, m1.sr.pf, hg, fun y H2 C2 A2 m2 o2 => ?_⟩
        have m := m1.trans S m2
        have m0 := m.drop S
        have rx : RpL W H2 (av C A2) l xs := (rl.stay m1.sr m2).sub (av_sub m.up)
        have ry : Rp W H2 (av C A2) r.1 y := OV.rp (o2.dn m1.dom) m.up (m.ctr S)
        refine ⟨by rw [List.length_append, rl.length, ← lim_eq]; exact hl, fun p hp => ?_⟩
        obtain ⟨C3, A3, m3, o3⟩ := m0.post (RPost.tup m0.sr.avtr m0.sr.tabs hp (rx.append (.one ry)))
        exact q _ _ C3 A3 m3 o3
      · cases e
    · cases e
  · cases e
/-! ### a, b = x, y -/
/-- two values to two locals, each staying one's own -/
def parM (i j : Nat) (f g : M) : SM := fun ρ => match f ρ with
  | some (r, ρ1) => (match g ρ1 with
    | some (r2, ρ2) => if i = j then none else (match setM ρ2 i r.1 r.2 with
      | some ρ3 => (match setM ρ3 j r2.1 r2.2 with
        | some ρ4 => some (.nx, ρ4)
        | none => none)
      | none => none)
    | none => none)
  | none => none
def Fit (W : Wd) (P : Hp) (H : Hp) (C Cx : Av) (A : Nat → Option Addr) (r : Res) (v : V) : Prop :=
  if r.2 = true then ∃ p, v = .ref p ∧ Cx p ∧ ¬ C p ∧ P p = none ∧ Cl W H (av Cx A) p r.1 else Rp W H (av Cx A) r.1 v
theorem set_step {P : Hp} {C Cx : Av} {r : Res} {ρ2 : Rho} (S : SR W P Cx Z A ρ1 σ H) (up : ∀ a, C a → Cx a) (h : setM ρ1 i r.1 r.2 = some ρ2) (o : Fit W P H C Cx A r v) :
    ∃ A3, SR W P C Z A3 ρ2 (σ.set i (some v)) H ∧ ∀ a, av C A3 a → av Cx A a := by
  unfold Fit at o
  cases hb : r.2 with
  | true =>
    rw [if_pos hb] at o
    obtain ⟨p, rfl, hp, hC, hP, c⟩ := o
    rw [hb] at h
    obtain ⟨hi, hz, rfl⟩ := setM_inv h
    have S1 := S.wipe1 hi hz
    refine ⟨_, S1.storeOw up hi (by unfold Aoff; rw [if_pos rfl]) (S.io0 hz) hp hC hP (c.move (fun _ z _ => z) fun l xs r => r.sub av_off), fun a z => ?_⟩
    rcases z with z | ⟨j, z⟩
    · exact .inl (up a z)
    · unfold Aset at z
      split at z
      · cases z; exact .inl hp
      · exact .inr ⟨j, (Aoff_some z).1⟩
  | false =>
    rw [if_neg (by rw [hb]; exact Bool.false_ne_true)] at o
    rw [hb] at h
    exact ⟨_, (S.subC up).setFr h (o.sub (av_sub up)), fun a z => (av_off a z).elim (fun z => .inl (up a z)) .inr⟩
theorem par_core {j : Nat} {f g : M} {D : Ends} (h : tSf W (parM i j f g) D σ H) :
    i ≠ j ∧ tOf W f σ H fun v H1 => tOf W g σ H1 fun w H2 => ∀ H3, ExtN H2 H3 → NdefX.TabsN W.tb H3 → D.nx ((σ.set i (some v)).set j (some w)) H3 := by
  obtain ⟨P, C, Z, A, ρ, out, ρ', S, e, q⟩ := h
  unfold parM at e
  split at e
  · rename_i r ρ1 hf
    split at e
    · rename_i r2 ρ2 hg
      split at e
      · cases e
      rename_i hij
      split at e
      · rename_i ρ3 h3
        split at e
        · rename_i ρ4 h4
          cases e
          refine ⟨hij, P, C, Z, A, ρ, r, ρ1, S, hf, fun v H1 C1 A1 m1 o1 => ⟨Pf H1 A1, C1, Z, A1, ρ1, r2, ρ2, m1.sr.pf, hg, fun w H2 C2 A2 m2 o2 => fun H3 k tb => ?_⟩⟩
          have m := m1.trans S m2
          have o1s := OV.stay m1.sr m2 o1
          have Sx := m.sr.ext k tb
          have nv : ∀ a, r.2 = true → v = .ref a → ¬ C a := fun a hb ev z => by
            unfold OV at o1
            rw [if_pos hb] at o1
            obtain ⟨p, ep, n, _⟩ := o1
            rw [ev] at ep
            cases ep
            exact S.ctr a z n
          have fit1 : Fit W P H3 (fun a => C2 a ∧ (r.2 = true → v ≠ .ref a)) C2 A2 r v := by
            unfold OV at o1s
            unfold Fit
            split at o1s
            · rename_i hb
              rw [if_pos hb]
              obtain ⟨p, ev, n, c, cl⟩ := o1s
              exact ⟨p, ev, c, fun z => z.2 hb ev, S.pnone n, cl.move (k p) fun l xs r => r.ext k⟩
            · rename_i hb
              rw [if_neg hb]
              exact o1s.ext k
          obtain ⟨A3, S3, sub3⟩ := set_step Sx (fun a z => z.1) h3 fit1
          have fit2 : Fit W P H3 C (fun a => C2 a ∧ (r.2 = true → v ≠ .ref a)) A3 r2 w := by
            unfold OV at o2
            unfold Fit
            split at o2
            · rename_i hb
              rw [if_pos hb]
              obtain ⟨p, ev, n, c, cl⟩ := o2
              have nwH : Nw H p := Classical.byContradiction fun z => m1.dom p z n
              refine ⟨p, ev, ⟨c, fun hr ez => ?_⟩, fun z => S.ctr p z nwH, S.pnone nwH, cl.move (k p) fun l xs r => (r.ext k).sub sub3⟩
              unfold OV at o1
              rw [if_pos hr] at o1
              obtain ⟨p', ep, _, cp, clp⟩ := o1
              rw [ez] at ep
              cases ep
              exact m1.sr.ctr p cp n
            · rename_i hb
              rw [if_neg hb]
              exact (o2.ext k).sub sub3
          obtain ⟨A4, S4, _⟩ := set_step S3 (fun a z => ⟨m.up a z, fun hr ev => nv a hr ev z⟩) h4 fit2
          exact q _ _ A4 S4
        · cases e
      · cases e
    · cases e
  · cases e
/-- .. by swapped stores -/
theorem par_ok {j : Nat} {f g : M} {D : Ends} (h : tSf W (parM i j f g) D σ H) : tPar i j (tCons (tOf W f) (tCons (tOf W g) tNil)) D σ H := by
  obtain ⟨hij, h⟩ := par_core h
  have h' : tOf W f σ H fun v H1 => tOf W g σ H1 fun w H2 => NdefX.TabsN W.tb H2 ∧ ∀ H3, ExtN H2 H3 → NdefX.TabsN W.tb H3 → D.nx ((σ.set i (some v)).set j (some w)) H3 := by
    refine tOf_mono h fun v H1 z => ?_
    obtain ⟨P, C, Z, A, ρ, r, ρ', S, e, q⟩ := z
    exact ⟨P, C, Z, A, ρ, r, ρ', S, e, fun w H2 C2 A2 m o => ⟨m.sr.tabs, q w H2 C2 A2 m o⟩⟩
  exact tOf_mono h' fun v H1 z => tOf_mono z fun w H2 z => ⟨v, w, rfl, z.2 H2 (.refl _) z.1⟩
/-- .. by a tuple that is taken apart -/
theorem parT_ok {j : Nat} {f g : M} {D : Ends} (h : tSf W (parM i j f g) D σ H) : tAsg (tTup (tCons (tOf W f) (tCons (tOf W g) tNil))) (gTup W.K 2 (gNames [i, j])) D σ H := by
  obtain ⟨hij, h⟩ := par_core h
  have h' : tOf W f σ H fun v H1 => tOf W g σ H1 fun w H2 => NdefX.TabsN W.tb H2 ∧ ∀ H3, ExtN H2 H3 → NdefX.TabsN W.tb H3 → D.nx ((σ.set i (some v)).set j (some w)) H3 := by
    refine tOf_mono h fun v H1 z => ?_
    obtain ⟨P, C, Z, A, ρ, r, ρ', S, e, q⟩ := z
    exact ⟨P, C, Z, A, ρ, r, ρ', S, e, fun w H2 C2 A2 m o => ⟨m.sr.tabs, q w H2 C2 A2 m o⟩⟩
  exact tOf_mono h' fun v H1 z => tOf_mono z fun w H2 z => ⟨by rw [← lim_eq]; show 2 ≤ lim; decide, fun p hp => ⟨p, [v, w], rfl, .inl (.inl upd_same), rfl, v, [w], rfl, w, [], rfl, rfl, z.2 _ (.upd hp) (tabs_new hp z.1)⟩⟩
end
end Rv
end

section
set_option Elab.async false
set_option autoImplicit false
set_option linter.all false
set_option maxRecDepth 100000
set_option maxHeartbeats 1000000
/-! Rv13: dict displays and comprehensions, tuple.index, split, len(set(..)). -/
namespace Rv
open PySem PySem.Spec L2
open PyProof.Rows hiding St

section
variable {W : Wd} {P : Hp} {C C' C1 : Av} {Z : Option Addr} {A A' A1 : Nat → Option Addr} {ρ ρ' ρ1 : Rho} {σ : St} {H H' H1 : Hp} {t : T} {ts l : List T} {v : V} {vs xs : List V} {o : Own} {i : Nat} {p a : Addr} {av0 : Av}
/-! ### {k: v} -/
def dispM (f g : M) : M := fun ρ => match f ρ with
  | some ((x, false), ρ1) => (match kOf x with
    | some k => (match g ρ1 with
      | some (r, ρ2) => some ((.dic [k] [r.1], true), ρ2)
      | none => none)
    | none => none)
  | _ => none
theorem disp_ok {f g : M} {Q : VK} (h : tOf W (dispM f g) σ H Q) : tDisp [(tOf W f, tOf W g)] σ H Q := by
  obtain ⟨P, C, Z, A, ρ, rr, ρ', S, e, q⟩ := h
  unfold dispM at e
  split at e
  · rename_i x ρ1 hf
    split at e
    · rename_i k hk
      split at e
      · rename_i r ρ2 hg
        cases e
        intro D hD
        have nD : Nw H D := .of hD
        have k1 : ExtN H (upd H D (.dK [])) := ExtN.upd hD
        have tb1 : NdefX.TabsN W.tb (upd H D (.dK [])) := tabs_new hD S.tabs
        have nD' : ¬ Nw (upd H D (.dK [])) D := fun z => by have := z _ upd_same; cases this
        have S1 := S.pf.addC (p := D) nD k1 tb1 nD'
        have ov0 : OV W (fun _ => none) (upd H D (.dK [])) (Cadd C D) A (.dic [] [], true) (.ref D) := by
          unfold OV
          rw [if_pos rfl]
          exact ⟨D, rfl, .of rfl, .inr rfl, [], upd_same, rfl, RpL.nil⟩
        refine ⟨Pf (upd H D (.dK [])) A, Cadd C D, Z, A, ρ, _, ρ1, S1.pf, hf, fun kv H1 C1 A1 m1 o1 => ?_⟩
        have o1' : Rp W H1 (av C1 A1) x kv := o1
        have ek := rt_key hk o1'.rt
        refine ⟨Pf H1 A1, C1, Z, A1, ρ1, r, _, m1.sr.pf, hg, fun w H2 C2 A2 m2 o2 => ?_⟩
        have m := m1.trans S1.pf m2
        have ov1 := OV.stay S1 m ov0
        unfold OV at ov1
        rw [if_pos rfl] at ov1
        obtain ⟨D', eD, _, _, kvs0, e0, f0, _⟩ := ov1
        cases eD
        have z0 : kvs0 = [] := List.map_eq_nil_iff.mp f0
        subst z0
        have rw : Rp W H2 (av (Cadd C D) A2) r.1 w := OV.rp (o2.dn m1.dom) m.up (m.ctr S1.pf)
        have S2 : SR W P (Cadd C D) Z A2 ρ' σ H2 := (m.sr.less fun a o z => S1.le a o (S.le a o z)).subC m.up
        have S3 : SR W P (Cadd C D) Z A2 ρ' σ (upd H2 D (.dK [(k, w)])) := S2.updC (.inr rfl) (S.pnone nD) e0 rfl rfl
        refine ⟨e0, [(k, w)], by rw [ek]; rfl, by show 1 ≤ 15; decide, q _ _ (Cadd C D) A2 ⟨m.subA, fun a z => .inl z, fun a z => z.elim .inl fun z => .inr (z ▸ nD), fun a z => nw_upd rfl (m.dom a (Nw.ext k1 z)), S3⟩ ?_⟩
        unfold OV
        rw [if_pos rfl]
        exact ⟨D, rfl, nD, .inr rfl, [(k, w)], upd_same, rfl, (RpL.one rw).upd (.inl (.inr rfl))⟩
      · cases e
    · cases e
  · cases e
/-! ### {k: v for ..} -/
def turnD (cond fk fv : M) (vs : List Nat) : List Key × List T → Rho → Option ((List Key × List T) × Rho) := fun acc ρa => match cond ρa with
  | some ((T.bl true, false), ρb) => (match fk ρb with
    | some ((x, false), ρc) => (match kOf x with
      | some k => (match fv ρc with
        | some (r, ρd) => (match wipeR vs ρd with
          | some ρe => if acc.1.length < lim then some (putL acc.1 acc.2 k r.1, ρe) else none
          | none => none)
        | none => none)
      | none => none)
    | _ => none)
  | some ((T.bl false, false), ρb) => (match wipeR vs ρb with
    | some ρd => some (acc, ρd)
    | none => none)
  | _ => none
def loopD (tg : Tg) (turn : List Key × List T → Rho → Option ((List Key × List T) × Rho)) : List T → List Key × List T → Rho → Option ((List Key × List T) × Rho)
  | [], acc, ρ => some (acc, ρ)
  | t :: ts, acc, ρ => match tgM tg t ρ with
    | none => none
    | some ρa => match turn acc ρa with
      | none => none
      | some (acc', ρd) => loopD tg turn ts acc' ρd
def dcM (src : SrcM) (tg : Tg) (cond fk fv : M) (vs : List Nat) : M := fun ρ => match src ρ with
  | none => none
  | some (ts, ρ1) => match wipeR vs ρ1 with
    | none => none
    | some ρw => match loopD tg (turnD cond fk fv vs) ts ([], []) ρw with
      | none => none
      | some (acc, ρ2) => some ((.dic acc.1 acc.2, true), ρ2)
theorem turnD_ok {cond fk fv : M} {vs : List Nat} {D : Addr} {acc acc' : List Key × List T} {ρa ρd : Rho} {Nx : Hp → Prop} (S : SR W P C Z A ρa σ H) (hC : C D) (hP : P D = none) (c : Cl W H (av C A) D (.dic acc.1 acc.2))
    (e : turnD cond fk fv vs acc ρa = some (acc', ρd)) (q : ∀ A' H', SR W P C Z A' ρd (wipe σ vs) H' → (∀ i p, A' i = some p → A i = some p) → Cl W H' (av C A') D (.dic acc'.1 acc'.2) → (∀ a, ¬ Nw H a → ¬ Nw H' a) → Nx H') :
    tOfT W cond σ H fun b H3 => if b = true then tOf W fk σ H3 fun y H4 => tOf W fv σ H4 fun z H5 => ∃ kvs k, y = kV k ∧ H5 D = some (.dK kvs) ∧ kvs.length < sizeLine ∧ Nx (upd H5 D (.dK (putK kvs k z))) else Nx H3 := by
  have ov : OV W (fun _ => none) H C A (.dic acc.1 acc.2, true) (.ref D) := by
    unfold OV
    rw [if_pos rfl]
    exact ⟨D, rfl, .of rfl, hC, c⟩
  unfold turnD at e
  split at e
  · rename_i ρb hc
    split at e
    · rename_i x ρc hk
      split at e
      · rename_i k hx
        split at e
        · rename_i r ρf hv
          split at e
          · rename_i ρe hw
            split at e
            · rename_i hl
              cases e
              refine ⟨Pf H A, C, Z, A, ρa, true, ρb, S.pf, hc, fun H3 C3 A3 m3 => iteT ?_⟩
              refine tOf_seq S.pf m3 hk fun y H4 C4 A4 m4 o4 => ?_
              have o4' : Rp W H4 (av C4 A4) x y := o4
              have ek := rt_key hx o4'.rt
              subst ek
              refine tOf_seq S.pf m4 hv fun z H5 C5 A5 m5 o5 => ?_
              have m0 := m5.drop S.pf
              have rz : Rp W H5 (av C A5) r.1 z := OV.rp o5 m5.up (m5.ctr S.pf)
              have ov5 := OV.stay S m0 ov
              unfold OV at ov5
              rw [if_pos rfl] at ov5
              obtain ⟨D', eD, _, _, kvs, ek, fk', rl⟩ := ov5
              cases eD
              have S5 : SR W P C Z A5 ρf σ H5 := m0.sr.less S.le
              have S6 : SR W P C Z A5 ρf σ (upd H5 D (.dK (putK kvs k z))) := S5.updC hC hP ek rfl rfl
              obtain ⟨A7, sb7, S7⟩ := S6.wipeAll hw
              have hlk : kvs.length = acc.1.length := by rw [← fk', List.length_map]
              refine ⟨kvs, k, rfl, ek, by rw [← lim_eq, hlk]; exact hl, q A7 _ S7 (fun i p z => m5.subA i p (sb7 i p z)) ⟨_, upd_same, ?_, ?_⟩ fun a z => nw_upd rfl (m5.dom a z)⟩
              · rw [← fk']; exact putK_fst
              · rw [← fk']
                exact ((putK_rp rz rl).upd (.inl hC)).sub fun a z => z.elim .inl fun ⟨j, e⟩ => .inr ⟨j, sb7 j a e⟩
            · cases e
          · cases e
        · cases e
      · cases e
    · cases e
  · rename_i ρb hc
    split at e
    · rename_i ρf hw
      cases e
      refine ⟨Pf H A, C, Z, A, ρa, false, ρb, S.pf, hc, fun H3 C3 A3 m3 => iteF ?_⟩
      have m0 := m3.drop S.pf
      have ov4 := OV.stay S m0 ov
      unfold OV at ov4
      rw [if_pos rfl] at ov4
      obtain ⟨D', eD, _, _, c4⟩ := ov4
      cases eD
      have S4 : SR W P C Z A3 ρb σ H3 := m0.sr.less S.le
      obtain ⟨A6, sb6, S6⟩ := S4.wipeAll hw
      exact q A6 _ S6 (fun i p z => m3.subA i p (sb6 i p z)) (c4.move (fun _ z _ => z) fun l xs r => r.sub fun a z => z.elim .inl fun ⟨j, e⟩ => .inr ⟨j, sb6 j a e⟩) m3.dom
    · cases e
  · cases e
theorem dc_ok {src : SrcM} {tg : Tg} {g : TG} {cond fk fv : M} {vs : List Nat} {Q : VK} (hg : ∀ v σ H K, gOf W tg v σ H K → g v σ H K) (hs : ∀ i ∈ tg.slots, i ∈ vs) (h : tOf W (dcM src tg cond fk fv vs) σ H Q) :
    tDc (tI W src) g (tOfT W cond) (tOf W fk) (tOf W fv) vs σ H Q := by
  obtain ⟨P, C, Z, A, ρ, r, ρ', S, e, q⟩ := h
  unfold dcM at e
  split at e
  · cases e
  rename_i ts ρ1 hsrc
  split at e
  · cases e
  rename_i ρw hw
  split at e
  · cases e
  rename_i acc ρ2 hl
  cases e
  refine ⟨P, C, Z, A, ρ, ts, ρ1, S, hsrc, fun J H1 C1 A1 m it => fun D hD => ?_⟩
  have it := it.le (P' := Pf H1 A1) fun a o z => (Pc_le z).1
  have nD : Nw H1 D := .of hD
  have k1 : ExtN H1 (upd H1 D (.dK [])) := ExtN.upd hD
  have tb1 : NdefX.TabsN W.tb (upd H1 D (.dK [])) := tabs_new hD m.sr.tabs
  have nD' : ¬ Nw (upd H1 D (.dK [])) D := fun z => by have := z _ upd_same; cases this
  have S1 := m.sr.pf.addC (p := D) nD k1 tb1 nD'
  obtain ⟨Aw, sbw, Sw⟩ := S1.wipeAll hw
  have hPD : Pf H1 A1 D = none := by
    cases q : Pf H1 A1 D with
    | none => rfl
    | some o => have := (of_Pf q).1; rw [hD] at this; cases this
  refine ⟨fun i n H => n = ts.length - i ∧ i ≤ ts.length ∧ ∃ Ai ρi ac, SR W (Pf H1 A1) (Cadd C1 D) Z Ai ρi (wipe σ vs) H ∧ (∀ i p, Ai i = some p → A1 i = some p) ∧ Cl W H (av (Cadd C1 D) Ai) D (.dic ac.1 ac.2) ∧
    loopD tg (turnD cond fk fv vs) (ts.drop i) ac ρi = some (acc, ρ') ∧ (∀ a, ¬ Nw H1 a → ¬ Nw H a), ⟨ts.length, by simp, Nat.zero_le _, Aw, ρw, ([], []), Sw, sbw, ⟨[], upd_same, rfl, RpL.nil⟩, by simpa using hl, fun a z => Nw.ext k1 z⟩, ?_⟩
  rintro i n Hi ⟨rfl, hi, Ai, ρi, ac, Si, sbi, ci, ei, di⟩
  by_cases hlt : i < ts.length
  · have hd : ts.drop i = ts[i] :: ts.drop (i + 1) := List.drop_eq_getElem_cons hlt
    rw [hd] at ei
    unfold loopD at ei
    have hti : ts[i]? = some ts[i] := List.getElem?_eq_getElem hlt
    split at ei
    · cases ei
    rename_i ρa hta
    split at ei
    · cases ei
    rename_i ac' ρd htu
    refine .inr ⟨it.go i _ Hi hti Si.keep, fun H' => ∃ Aj, SR W (Pf H1 A1) (Cadd C1 D) Z Aj ρd (wipe σ vs) H' ∧ (∀ i p, Aj i = some p → A1 i = some p) ∧ Cl W H' (av (Cadd C1 D) Aj) D (.dic ac'.1 ac'.2) ∧ (∀ a, ¬ Nw H1 a → ¬ Nw H' a), ?_, ?_⟩
    · rintro H' ⟨Aj, Sj, sbj, cj, dj⟩
      exact ⟨ts.length - (i + 1), by omega, rfl, by omega, Aj, ρd, _, Sj, sbj, cj, ei, dj⟩
    · intro x H' y
      obtain ⟨k, tb, rr⟩ := it.yld i _ Hi x H' hti Si.keep Si.tabs y
      have S' := Si.ext k tb
      refine hg _ _ _ _ ⟨Pf H1 A1, Cadd C1 D, Z, Ai, ρi, ts[i], ρa, S', rr _ (fun a z => ?_), hta, fun σ2 A2 S2 sb2 hw2 => ?_⟩
      · rcases z with (z | z) | ⟨j, z⟩
        · exact ⟨Si.ctr a (.inl z), .inl (.inl z)⟩
        · subst z; exact ⟨Si.ctr a (.inr rfl), .inr hPD⟩
        · exact ⟨Si.atr z, .inr (Si.prot j a z)⟩
      have ew : wipe σ2 vs = wipe σ vs := (hw2 vs hs).trans (wipe_wipe fun i h => h)
      refine ⟨ew, ?_⟩
      refine turnD_ok S2 (.inr rfl) hPD (ci.move (k D) fun l xs r => (r.ext k).sub fun a z => z.elim .inl fun ⟨j, e⟩ => .inr ⟨j, sb2 j a e⟩) htu fun A' H'' S'' sb'' c'' d'' => ?_
      rw [ew] at S''
      exact ⟨A', S'', fun i p z => sbi i p (sb2 i p (sb'' i p z)), c'', fun a z => d'' a (Nw.ext k (di a z))⟩
  · have ee : i = ts.length := by omega
    subst ee
    rw [List.drop_length] at ei
    cases ei
    refine .inl ⟨it.stop Hi Si.keep, ?_⟩
    refine q _ Hi (Cadd C1 D) Ai ⟨fun i p z => m.subA i p (sbi i p z), fun a z => .inl (m.up a z), fun a z => z.elim (m.dn a) fun z => .inr (Classical.byContradiction fun w => m.dom D (z ▸ w) nD), fun a z => di a (m.dom a z), (Si.unwipe).less m.sr.le⟩ ?_
    unfold OV
    rw [if_pos rfl]
    exact ⟨D, rfl, Classical.byContradiction fun w => m.dom D w nD, .inr rfl, ci⟩

/-! ### t.index(x), the first place -/
def idxOf : List T → T → Option Nat
  | [], _ => none
  | t :: ts, x => if teq t x = true then some 0 else (idxOf ts x).map (· + 1)
theorem idxOf_spec : ∀ {ts : List T} {x : T} {j : Nat}, idxOf ts x = some j → (∃ t, ts[j]? = some t ∧ teq t x = true) ∧ ∀ m, m < j → ∀ t, ts[m]? = some t → teq t x = false
  | [], _, _, e => nomatch e
  | t :: ts, x, j, e => by
    unfold idxOf at e
    split at e
    · rename_i h
      cases e
      exact ⟨⟨t, rfl, h⟩, fun m hm => absurd hm (by omega)⟩
    · rename_i h
      obtain ⟨k, hk, rfl⟩ := Option.map_eq_some_iff.mp e
      obtain ⟨⟨u, h1, h2⟩, h3⟩ := idxOf_spec hk
      refine ⟨⟨u, by simpa using h1, h2⟩, fun m hm w hw => ?_⟩
      cases m with
      | zero =>
        have : t = w := by simpa using hw
        subst this
        cases q : teq t x with
        | true => exact absurd q h
        | false => rfl
      | succ m => exact h3 m (by omega) w (by simpa using hw)
def gIndex : List T → Option Res
  | [.tup true l, x] => if dOkL 11 l = true ∧ dOk 12 x = true then (idxOf l x).map fun j => (.int (j : Nat), false) else none
  | _ => none
/-- the tuple's own object, if it has no dict -/
def TupD (K : PySem.W.Frag) (H : Hp) (a : Addr) (xs : List V) : Prop := (∃ o : Obj, o.dict = none ∧ H a = some (.frz o (.tup xs))) ∨ Kt K a xs
def rIdxD (K : PySem.W.Frag) : V → List V → Hp → VK → Prop := fun x xs H Q => ∃ (a : Addr) (ys : List V) (y : V) (d : PyData) (ds : List PyData) (j : Nat) (z : PyData), x = .ref a ∧ xs = [y] ∧ TupD K H a ys ∧ DpAll K H ys ds ∧ PyData.canLayAll0 ds = true ∧ Dp K H y d ∧ SeqAt.shaped d = true ∧
  ds[j]? = some z ∧ PyData.eqv z d = true ∧ (∀ m w, m < j → ds[m]? = some w → PyData.eqv w d = false) ∧ Q (.int (j : Nat)) H
theorem TupD.sq {K : PySem.W.Frag} {a : Addr} (h : TupD K H a xs) : SqT K H a xs := by
  rcases h with ⟨o, _, h⟩ | ⟨o, its, n, h1, h2, _, h3, h4, h5⟩
  · exact .inl (.inr ⟨o, h⟩)
  · exact .inr ⟨o, its, n, h1, h2, h3, h4, h5⟩
theorem mt_idxD {X : Cx} (hu : X.A.units + 65 < cLine) : MtR X "tuple.index" (rIdxD X.K) := by
  intro pins s σ H x xs v us Q I rx rs h
  obtain ⟨a, ys, y, d, ds, j, z, rfl, rfl, hq, hds, hcl, hd, sd, hz, hzj, hno, q⟩ := h
  cases rx
  obtain ⟨uy, rfl, ry⟩ := vals1 rs
  obtain ⟨its, r, pl, hl⟩ := I.tuple hq.sq
  obtain ⟨⟨cls, dd, dt, sl⟩, ho, hc, n, hdt⟩ := pl
  simp only at hc hdt
  subst hc
  subst hdt
  obtain ⟨as, h4⟩ := Dp.readsAll I ds ys its hds r
  obtain ⟨bs, r1⟩ := Dp.reads I d y uy hd ry
  have hmap : its.map (SeqAt.readOf s.heap) = ds := SeqAt.readsAll_map ds its as hcl h4
  have hlen : its.length = ds.length := by rw [← hmap, List.length_map]
  have hj : j < its.toArray.size := by
    have := (List.getElem?_eq_some_iff.mp hz).1
    rw [List.size_toArray, hlen]; exact this
  have at' : ∀ m (hm : m < its.toArray.size), ds[m]? = some (SeqAt.readOf s.heap its.toArray[m]) := fun m hm => by
    have hm' : m < its.length := by simpa using hm
    rw [← hmap, List.getElem?_map, List.getElem?_eq_getElem hm']
    simp
  refine call_meets PySem.F.slot_tuple_index ⟨_, ho, rfl⟩ PySem.F.entry_tuple_index (PySem.F.args_tuple_index_2 _ _) (TI.tuple_indexAt a its.toArray n dd sl uy (fun u => PyData.eqv (SeqAt.readOf s.heap u) d) j hj ?_ ?_)
    ⟨ho, SeqAt.items_eqAt (vs := its.toArray) (show ReadsAll s.heap its.toArray.toList ds as from by simpa using h4) r1 hcl (canLay_sh sd) (room_in_shaped sd hu), ⟨.int (j : Nat), H, I.tok _, ⟨_, rfl⟩, q⟩⟩
  · have := at' j hj
    rw [hz] at this
    cases this
    exact hzj
  · intro m hm hmj
    exact hno m _ hmj (at' m hm)
end
end Rv
end

section
set_option Elab.async false
set_option autoImplicit false
set_option linter.all false
set_option maxRecDepth 100000
set_option maxHeartbeats 1000000
/-! Rv14: the rules by constructs. -/
namespace Rv
open PySem PySem.Spec L2
open PyProof.Rows hiding St

/-- readings of expressions, operands, tests, statements -/
abbrev EE (X : Cx) (W : Wd) (e : Expr) (f : M) : Prop := PE X e (tOf W f)
abbrev EO (X : Cx) (W : Wd) (e : Expr) (o : Op) : Prop := PE X e (tO W o)
abbrev EA (X : Cx) (W : Wd) (es : List Expr) (os : List Op) : Prop := PA X es (tOs W os)
abbrev ET (X : Cx) (W : Wd) (e : Expr) (f : M) : Prop := PT X e (tOfT W f)
abbrev ES (X : Cx) (W : Wd) (st : Stmt) (f : SM) : Prop := PS X st (tSf W f)
abbrev ESs (X : Cx) (W : Wd) (sts : List Stmt) (f : SM) : Prop := PSs X sts (tSf W f)
section
variable {X : Cx} {W : Wd} {a b c e : Expr} {es rest : List Expr} {pos p2 p3 : Pos} {f g h : M} {oa ob oc : Op} {os : List Op} {x : Str} {i j : Nat}
theorem PE.imp {t t' : TE} (h : PE X e t) (k : ∀ σ H Q, t' σ H Q → t σ H Q) : PE X e t' := ⟨fun pins s σ H Q I q => h.run pins s σ H Q I (k _ _ _ q)⟩
theorem PT.imp {t t' : TT} (h : PT X e t) (k : ∀ σ H Q, t' σ H Q → t σ H Q) : PT X e t' := ⟨fun pins s σ H Q I q => h.run pins s σ H Q I (k _ _ _ q)⟩
theorem PI.imp {tg : Expr} {t t' : TI} (h : PI X tg e t) (k : ∀ σ H Q, t' σ H Q → t σ H Q) : PI X tg e t' := ⟨fun pins s σ H Q I q => h.run pins s σ H Q I (k _ _ _ q)⟩
theorem PS.imp {st : Stmt} {t t' : TS} (h : PS X st t) (k : ∀ D σ H, t' D σ H → t D σ H) : PS X st t' := ⟨fun pins s σ H D I q => h.run pins s σ H D I (k _ _ _ q)⟩
theorem PSs.imp {st : List Stmt} {t t' : TS} (h : PSs X st t) (k : ∀ D σ H, t' D σ H → t D σ H) : PSs X st t' := ⟨fun pins s σ H D I q => h.run pins s σ H D I (k _ _ _ q)⟩
/-! ### operands -/
theorem o_pk (i : Nat) (h : PE X e (tVar i)) : EO X W e (.pk i) := h
theorem o_v (h : EE X W e f) : EO X W e (.val f) := h
theorem e_var (i : Nat) (h : PE X e (tVar i)) : EE X W e (varM i) := PE.imp h fun σ H Q q => var_ok q
theorem a_nil : EA X W [] [] := pa_nil
theorem a_cons (ha : EO X W e oa) (hr : EA X W es os) (hs : starEach (e :: es) X.env = (false, eval e X.env) :: starEach es X.env := by rfl) : EA X W (e :: es) (oa :: os) := pa_cons ha hr hs
/-! ### constants -/
def conM (t : T) : M := fun ρ => some ((t, false), ρ)
theorem con_ok {t : T} {v : V} {σ : St} {H : Hp} {Q : VK} (hr : ∀ H av, Rp W H av t v) (h : tOf W (conM t) σ H Q) : tC v σ H Q := by
  obtain ⟨P, C, Z, A, ρ, r, ρ', S, e, q⟩ := h
  cases e
  exact q v H C A (.refl S) (hr H _)
theorem e_int {k : Int} {u : Nat} : EE X W (.Constant (.int k) u pos) (conM (.int k)) := PE.imp pe_int fun σ H Q q => con_ok (fun H av => by simp only [Rp]) q
theorem e_bl {k : Bool} {u : Nat} : EE X W (.Constant (.bool k) u pos) (conM (.bl k)) := PE.imp pe_bl fun σ H Q q => con_ok (fun H av => by simp only [Rp]) q
theorem e_non {u : Nat} : EE X W (.Constant .none u pos) (conM .non) := PE.imp pe_non fun σ H Q q => con_ok (fun H av => by simp only [Rp]) q
theorem e_str {z : Str} {u : Nat} (hz : sOk z = true) : EE X W (.Constant (.str z) u pos) (conM (.str z)) := PE.imp pe_str fun σ H Q q => con_ok (fun H av => by simp only [Rp, true_and]; exact hz) q
theorem e_gint {k : Int} {t : Tok} (hg : Gl X x) (hm : X.mg x = some (.int k t)) (hd : (x == ("__debug__" : Str)) = false := by decide) : EE X W (.Name x pos) (conM (.int k)) := PE.imp (pe_glob (v := .int k) hg hm ⟨t, rfl⟩ hd) fun σ H Q q => con_ok (fun H av => by simp only [Rp]) q
theorem e_gstr {z : Str} {t : Tok} (hg : Gl X x) (hm : X.mg x = some (.str z t)) (hz : sOk z = true) (hd : (x == ("__debug__" : Str)) = false := by decide) : EE X W (.Name x pos) (conM (.str z)) := PE.imp (pe_glob (v := .str z) hg hm ⟨t, rfl⟩ hd) fun σ H Q q => con_ok (fun H av => by simp only [Rp, true_and]; exact hz) q
theorem rpl_strs {H : Hp} {av : Av} : ∀ {l : List Str}, l.all sOk = true → RpL W H av (l.map T.str) (l.map V.str)
  | [], _ => RpL.nil
  | z :: l, hz => by
    simp only [List.all_cons, Bool.and_eq_true] at hz
    exact .cons (by simp only [Rp, true_and]; exact hz.1) (rpl_strs hz.2)
/-- a tuple of texts of the written part -/
theorem e_gtup {l : List Str} {a : Addr} (hg : Gl X x) (hm : X.mg x = some (.ref a)) (hk : Kt W.K a (l.map V.str)) (hz : l.all sOk = true) (hd : (x == ("__debug__" : Str)) = false := by decide) : EE X W (.Name x pos) (conM (.tup true (l.map T.str))) :=
  PE.imp (pe_glob (v := .ref a) hg hm rfl hd) fun σ H Q q => con_ok (fun H av => by
    simp only [Rp]
    refine ⟨a, _, rfl, .inr hk, ?_⟩
    exact rpl_strs hz) q
/-! ### operations -/
theorem tO_mono : ∀ {o : Op} {σ : St} {H : Hp} {Q Q' : VK}, tO W o σ H Q → (∀ v H, Q v H → Q' v H) → tO W o σ H Q'
  | .val f, _, _, _, _, a, b => tOf_mono a b
  | .pk j, _, _, _, _, ⟨v, ev, z⟩, b => ⟨v, ev, b _ _ z⟩
theorem op2 {r : R2} {σ : St} {H : Hp} {Q : VK} (h : tCB (r2 r) (tOs W [oa, ob]) σ H Q) : tOp r (tO W oa) (tO W ob) σ H Q := by
  have h' : tO W oa σ H fun v H1 => tO W ob σ H1 fun w H2 => r2 r [v, w] H2 Q := h
  refine tO_mono h' fun v H1 z => tO_mono z fun w H2 z => ?_
  obtain ⟨x, y, e, q⟩ := z
  cases e
  exact q
theorem e_op2 {op : Operator} {r : R2} {gg : List T → Option Res} (ho : OpR X (binaryOp op) r) (hp : PrimOk W (r2 r) gg) (ha : EO X W a oa) (hb : EO X W b ob) : EE X W (.BinOp a op b pos) (primM [oa, ob] gg) :=
  PE.imp (pe_op ho ha hb) fun σ H Q q => op2 (prim_ok hp q)
theorem e_cmp2 {op : CmpOp} {r : R2} {gg : List T → Option Res} (ho : OpR X (compareOp op) r) (hp : PrimOk W (r2 r) gg) (ha : EO X W a oa) (hb : EO X W b ob) (hm : behindInMarks op b = false) : EE X W (.Compare a [op] [b] pos) (primM [oa, ob] gg) :=
  PE.imp (pe_cmpR ho ha hb hm) fun σ H Q q => op2 (prim_ok hp q)
theorem t_cmp2 {op : CmpOp} {r : R2} {gg : List T → Option Res} (ho : OpR X (compareOp op) r) (hp : PrimOk W (r2 r) gg) (ha : EO X W a oa) (hb : EO X W b ob) (hm : behindInMarks op b = false) : ET X W (.Compare a [op] [b] pos) (primM [oa, ob] gg) :=
  PT.imp (pt_cmpR ho ha hb hm) fun σ H Q q => op2 (prim_ok hp (of_test q))
theorem e_neg (ha : EE X W a (conM (.int i))) : EE X W (.UnaryOp .USub a pos) (conM (.int (-i))) :=
  PE.imp (pe_un un_neg ha) fun σ H Q q => by
    obtain ⟨P, C, Z, A, ρ, r, ρ', S, e, q⟩ := q
    cases e
    refine ⟨P, C, Z, A, ρ, _, ρ, S, rfl, fun v H1 C1 A1 m o => ?_⟩
    have o : Rp W H1 (av C1 A1) (.int i) v := o
    simp only [Rp] at o
    refine ⟨i, o, q _ H1 C1 A1 m ?_⟩
    show Rp W H1 (av C1 A1) (.int (-i)) (.int (-i))
    simp only [Rp]
def gAdd : List T → Option Res
  | [.int i, .int j] => some (.int (i + j), false)
  | [.str x, .str y] => if x.length + y.length ≤ 16777216 then some (.str (x ++ y), false) else none
  | [.tup _ (x :: xs), .tup _ (y :: ys)] => if xs.length + ys.length + 2 ≤ lim then some (.tup false (x :: xs ++ y :: ys), false) else none
  | [.lst xs, .lst ys] => if xs.length + ys.length ≤ lim then some (.lst (xs ++ ys), true) else none
  | _ => none
def rAdd (K : PySem.W.Frag) : R2 := fun x y H Q => rI0 (fun i j => .int (i + j)) x y H Q ∨ (∃ i j, x = .str i ∧ y = .str j ∧ i.length + j.length ≤ sizeLine ∧ Q (.str (i ++ j)) H) ∨ rCatT K x y H Q ∨ rCat x y H Q
theorem op_addA : OpR X (binaryOp .Add) (rAdd X.K) := OpR.or op_add (OpR.or op_add_str (OpR.or op_catT op_cat))
theorem r2_mono {r r' : R2} (k : ∀ x y H Q, r x y H Q → r' x y H Q) {vs : List V} {H : Hp} {Q : VK} (h : r2 r vs H Q) : r2 r' vs H Q := by
  obtain ⟨x, y, e, q⟩ := h
  exact ⟨x, y, e, k _ _ _ _ q⟩
theorem p_add : PrimOk W (r2 (rAdd W.K)) gAdd := by
  intro av ts vs H Q res rt e tb tr q
  unfold gAdd at e
  split at e
  · exact r2_mono (fun _ _ _ _ z => .inl z) (p_ii0 av _ vs H Q res rt (by simpa [gII] using e) tb tr q)
  · exact r2_mono (fun _ _ _ _ z => .inr (.inl z)) (p_addS av _ vs H Q res rt (by unfold gAddS; exact e) tb tr q)
  · exact r2_mono (fun _ _ _ _ z => .inr (.inr (.inl z))) (p_addT av _ vs H Q res rt (by unfold gAddT; exact e) tb tr q)
  · exact r2_mono (fun _ _ _ _ z => .inr (.inr (.inr z))) (p_addL av _ vs H Q res rt (by unfold gAddL; exact e) tb tr q)
  · cases e
theorem e_add (ha : EO X W a oa) (hb : EO X W b ob) (hK : X.K = W.K := by rfl) : EE X W (.BinOp a .Add b pos) (primM [oa, ob] gAdd) := e_op2 op_addA (hK ▸ p_add) ha hb
def gSub2 : List T → Option Res := gII (fun _ _ => true) fun i j => .int (i - j)
def gMul2 : List T → Option Res := gII cMul fun i j => .int (i * j)
def gDiv2 : List T → Option Res := gII cDiv fun i j => .int (i / j)
def gMod2 : List T → Option Res := gII (fun _ j => decide (0 < j)) fun i j => .int (i % j)
def gPow2 : List T → Option Res := gII cPow fun i j => .int (i ^ j.toNat)
theorem e_sub (ha : EO X W a oa) (hb : EO X W b ob) : EE X W (.BinOp a .Sub b pos) (primM [oa, ob] gSub2) := e_op2 op_sub p_ii0 ha hb
theorem e_mul (ha : EO X W a oa) (hb : EO X W b ob) : EE X W (.BinOp a .Mult b pos) (primM [oa, ob] gMul2) := e_op2 op_mul (p_ii cMul_ok) ha hb
theorem e_div (ha : EO X W a oa) (hb : EO X W b ob) : EE X W (.BinOp a .FloorDiv b pos) (primM [oa, ob] gDiv2) := e_op2 op_fdiv (p_ii cDiv_ok) ha hb
theorem e_mod (ha : EO X W a oa) (hb : EO X W b ob) : EE X W (.BinOp a .Mod b pos) (primM [oa, ob] gMod2) := e_op2 op_mod (p_ii fun _ _ h => of_decide_eq_true h) ha hb
theorem e_pow (ha : EO X W a oa) (hb : EO X W b ob) : EE X W (.BinOp a .Pow b pos) (primM [oa, ob] gPow2) := e_op2 op_pow (p_ii cPow_ok) ha hb
/-! ### comparisons, both as values and as tests -/
section
variable {k : Nat}
theorem u65 (hr : Room k X.A) : X.A.units + 65 < cLine := by have := hr.un; omega
theorem u64 (hr : Room k X.A) : X.A.units + 64 < cLine := by have := hr.un; omega
theorem u1 (hr : Room k X.A) : X.A.units + 1 < cLine := by have := hr.un; omega
theorem e_eq (hr : Room k X.A) (ha : EO X W a oa) (hb : EO X W b ob) (hK : X.K = W.K := by rfl) : EE X W (.Compare a [.Eq] [b] pos) (primM [oa, ob] gEq) := e_cmp2 (op_eqD (u64 hr)) (hK ▸ p_eq) ha hb (nobehind _ (by decide) (by decide))
theorem t_eq (hr : Room k X.A) (ha : EO X W a oa) (hb : EO X W b ob) (hK : X.K = W.K := by rfl) : ET X W (.Compare a [.Eq] [b] pos) (primM [oa, ob] gEq) := t_cmp2 (op_eqD (u64 hr)) (hK ▸ p_eq) ha hb (nobehind _ (by decide) (by decide))
theorem e_ne (hr : Room k X.A) (ha : EO X W a oa) (hb : EO X W b ob) (hK : X.K = W.K := by rfl) : EE X W (.Compare a [.NotEq] [b] pos) (primM [oa, ob] gNe) := e_cmp2 (op_neD (u64 hr)) (hK ▸ p_ne) ha hb (nobehind _ (by decide) (by decide))
theorem t_ne (hr : Room k X.A) (ha : EO X W a oa) (hb : EO X W b ob) (hK : X.K = W.K := by rfl) : ET X W (.Compare a [.NotEq] [b] pos) (primM [oa, ob] gNe) := t_cmp2 (op_neD (u64 hr)) (hK ▸ p_ne) ha hb (nobehind _ (by decide) (by decide))
def gLt : List T → Option Res := gCmp PySem.W.dataLt
def gGt : List T → Option Res := gCmp fun d e => PySem.W.dataLt e d
def gLe : List T → Option Res := gCmp fun d e => !PySem.W.dataLt e d
def gGe : List T → Option Res := gCmp fun d e => !PySem.W.dataLt d e
theorem e_lt (hr : Room k X.A) (ha : EO X W a oa) (hb : EO X W b ob) (hK : X.K = W.K := by rfl) : EE X W (.Compare a [.Lt] [b] pos) (primM [oa, ob] gLt) := e_cmp2 (op_ltD (u64 hr)) (hK ▸ p_cmp) ha hb (nobehind _ (by decide) (by decide))
theorem t_lt (hr : Room k X.A) (ha : EO X W a oa) (hb : EO X W b ob) (hK : X.K = W.K := by rfl) : ET X W (.Compare a [.Lt] [b] pos) (primM [oa, ob] gLt) := t_cmp2 (op_ltD (u64 hr)) (hK ▸ p_cmp) ha hb (nobehind _ (by decide) (by decide))
theorem e_gt (hr : Room k X.A) (ha : EO X W a oa) (hb : EO X W b ob) (hK : X.K = W.K := by rfl) : EE X W (.Compare a [.Gt] [b] pos) (primM [oa, ob] gGt) := e_cmp2 (op_gtD (u64 hr)) (hK ▸ p_cmp) ha hb (nobehind _ (by decide) (by decide))
theorem t_gt (hr : Room k X.A) (ha : EO X W a oa) (hb : EO X W b ob) (hK : X.K = W.K := by rfl) : ET X W (.Compare a [.Gt] [b] pos) (primM [oa, ob] gGt) := t_cmp2 (op_gtD (u64 hr)) (hK ▸ p_cmp) ha hb (nobehind _ (by decide) (by decide))
theorem e_le (hr : Room k X.A) (ha : EO X W a oa) (hb : EO X W b ob) (hK : X.K = W.K := by rfl) : EE X W (.Compare a [.LtE] [b] pos) (primM [oa, ob] gLe) := e_cmp2 (op_leD (u64 hr)) (hK ▸ p_cmp) ha hb (nobehind _ (by decide) (by decide))
theorem t_le (hr : Room k X.A) (ha : EO X W a oa) (hb : EO X W b ob) (hK : X.K = W.K := by rfl) : ET X W (.Compare a [.LtE] [b] pos) (primM [oa, ob] gLe) := t_cmp2 (op_leD (u64 hr)) (hK ▸ p_cmp) ha hb (nobehind _ (by decide) (by decide))
theorem e_ge (hr : Room k X.A) (ha : EO X W a oa) (hb : EO X W b ob) (hK : X.K = W.K := by rfl) : EE X W (.Compare a [.GtE] [b] pos) (primM [oa, ob] gGe) := e_cmp2 (op_geD (u64 hr)) (hK ▸ p_cmp) ha hb (nobehind _ (by decide) (by decide))
theorem t_ge (hr : Room k X.A) (ha : EO X W a oa) (hb : EO X W b ob) (hK : X.K = W.K := by rfl) : ET X W (.Compare a [.GtE] [b] pos) (primM [oa, ob] gGe) := t_cmp2 (op_geD (u64 hr)) (hK ▸ p_cmp) ha hb (nobehind _ (by decide) (by decide))
theorem e_in (hr : Room k X.A) (ha : EO X W a oa) (hb : EO X W b ob) (hK : X.K = W.K := by rfl) (hm : behindInMarks .In b = false := by rfl) : EE X W (.Compare a [.In] [b] pos) (primM [oa, ob] (gIn false)) := e_cmp2 (op_inD (u65 hr)) (hK ▸ p_in) ha hb hm
theorem t_in (hr : Room k X.A) (ha : EO X W a oa) (hb : EO X W b ob) (hK : X.K = W.K := by rfl) (hm : behindInMarks .In b = false := by rfl) : ET X W (.Compare a [.In] [b] pos) (primM [oa, ob] (gIn false)) := t_cmp2 (op_inD (u65 hr)) (hK ▸ p_in) ha hb hm
theorem e_nin (hr : Room k X.A) (ha : EO X W a oa) (hb : EO X W b ob) (hK : X.K = W.K := by rfl) (hm : behindInMarks .NotIn b = false := by rfl) : EE X W (.Compare a [.NotIn] [b] pos) (primM [oa, ob] (gIn true)) := e_cmp2 (op_notInD (u65 hr)) (hK ▸ p_in) ha hb hm
theorem t_nin (hr : Room k X.A) (ha : EO X W a oa) (hb : EO X W b ob) (hK : X.K = W.K := by rfl) (hm : behindInMarks .NotIn b = false := by rfl) : ET X W (.Compare a [.NotIn] [b] pos) (primM [oa, ob] (gIn true)) := t_cmp2 (op_notInD (u65 hr)) (hK ▸ p_in) ha hb hm
theorem e_ins (ha : EO X W a oa) (hb : EO X W b ob) (hm : behindInMarks .In b = false := by rfl) : EE X W (.Compare a [.In] [b] pos) (primM [oa, ob] (gInS false)) := e_cmp2 op_in_sign p_inS ha hb hm
theorem e_isn (ha : EO X W a oa) (hb : EO X W b ob) : EE X W (.Compare a [.Is] [b] pos) (primM [oa, ob] (gIsN false)) := e_cmp2 op_isN p_isN ha hb (nobehind _ (by decide) (by decide))
theorem t_isn (ha : EO X W a oa) (hb : EO X W b ob) : ET X W (.Compare a [.Is] [b] pos) (primM [oa, ob] (gIsN false)) := t_cmp2 op_isN p_isN ha hb (nobehind _ (by decide) (by decide))
theorem e_notn (ha : EO X W a oa) (hb : EO X W b ob) : EE X W (.Compare a [.IsNot] [b] pos) (primM [oa, ob] (gIsN true)) := e_cmp2 op_notN p_notN ha hb (nobehind _ (by decide) (by decide))
theorem t_notn (ha : EO X W a oa) (hb : EO X W b ob) : ET X W (.Compare a [.IsNot] [b] pos) (primM [oa, ob] (gIsN true)) := t_cmp2 op_notN p_notN ha hb (nobehind _ (by decide) (by decide))
/-- in a dict -/
theorem e_inK (hr : Room k X.A) (ha : EO X W a oa) (hb : EO X W b ob) (hm : behindInMarks .In b = false := by rfl) : EE X W (.Compare a [.In] [b] pos) (primM [oa, ob] (gInK false)) :=
  PE.imp (pe_cmp (pc_din (u1 hr) ha hb) hm) fun σ H Q q => op2 (prim_ok p_inK q)
theorem t_inK (hr : Room k X.A) (ha : EO X W a oa) (hb : EO X W b ob) (hm : behindInMarks .In b = false := by rfl) : ET X W (.Compare a [.In] [b] pos) (primM [oa, ob] (gInK false)) :=
  PT.imp (pt_cmp (pc_din (u1 hr) ha hb) hm) fun σ H Q q => op2 (prim_ok p_inK (of_test q))
theorem e_ninK (hr : Room k X.A) (ha : EO X W a oa) (hb : EO X W b ob) (hm : behindInMarks .NotIn b = false := by rfl) : EE X W (.Compare a [.NotIn] [b] pos) (primM [oa, ob] (gInK true)) :=
  PE.imp (pe_cmp (pc_dnotin (u1 hr) ha hb) hm) fun σ H Q q => op2 (prim_ok p_notInK q)
theorem t_ninK (hr : Room k X.A) (ha : EO X W a oa) (hb : EO X W b ob) (hm : behindInMarks .NotIn b = false := by rfl) : ET X W (.Compare a [.NotIn] [b] pos) (primM [oa, ob] (gInK true)) :=
  PT.imp (pt_cmp (pc_dnotin (u1 hr) ha hb) hm) fun σ H Q q => op2 (prim_ok p_notInK (of_test q))
/-! ### and, or, not, if -/
theorem t_val (ha : EE X W a f) (he : ∀ whole, isTrue a X.env whole = (do let v ← whole; standAt a.pos; holding [v] (truthy v)) := by intro _; rfl) : ET X W a f := PT.imp (pt_val ha he) fun σ H Q q => of_test q
theorem e_one {op : BoolOp} (h : EE X W a f) : EE X W (.BoolOp op [a] pos) f := pe_one h
theorem e_and (ha : EE X W a f) (hb : EE X W (.BoolOp .And (b :: rest) pos) g) : EE X W (.BoolOp .And (a :: b :: rest) pos) (andM f g) := PE.imp (pe_and ha hb) fun σ H Q q => and_okE q
theorem e_or (ha : EE X W a f) (hb : EE X W (.BoolOp .Or (b :: rest) pos) g) : EE X W (.BoolOp .Or (a :: b :: rest) pos) (orM f g) := PE.imp (pe_or ha hb) fun σ H Q q => or_okE q
theorem e_not (ha : EE X W a f) : EE X W (.UnaryOp .Not a pos) (notM f) := PE.imp (pe_not ha) fun σ H Q q => not_okE q
abbrev EW (X : Cx) (W : Wd) (e : Expr) (f : M) : Prop := PW X e (tOfT W f)
theorem PW.imp {t t' : TT} (h : PW X e t) (k : ∀ σ H Q, t' σ H Q → t σ H Q) : PW X e t' := ⟨fun wh pins s σ H Q I q => h.run wh pins s σ H Q I (k _ _ _ q)⟩
theorem w_and1 (ha : ET X W a f) : EW X W (.BoolOp .And [a] pos) f := pw_and1 ha
theorem w_or1 (ha : ET X W a f) : EW X W (.BoolOp .Or [a] pos) f := pw_or1 ha
theorem w_and (ha : ET X W a f) (hb : EW X W (.BoolOp .And (b :: rest) pos) g) : EW X W (.BoolOp .And (a :: b :: rest) pos) (andM f g) := PW.imp (pw_and ha hb) fun σ H Q q => and_okT q
theorem w_or (ha : ET X W a f) (hb : EW X W (.BoolOp .Or (b :: rest) pos) g) : EW X W (.BoolOp .Or (a :: b :: rest) pos) (orM f g) := PW.imp (pw_or ha hb) fun σ H Q q => or_okT q
theorem t_w (h : EW X W a f) : ET X W a f := h.pt
theorem t_not (ha : ET X W a f) : ET X W (.UnaryOp .Not a pos) (notM f) := PT.imp (pt_not ha) fun σ H Q q => not_okT q
theorem e_ite (hc : ET X W c h) (ha : EE X W a f) (hb : EE X W b g) : EE X W (.IfExp c a b pos) (iteM h f g) := PE.imp (pe_ifExp hc ha hb) fun σ H Q q => ite_ok q
/-! ### subscripts, slices -/
theorem e_ix (ha : EO X W a oa) (hb : EO X W b ob) (hs : PlainIx b := by intro _ _; rfl) (hK : X.K = W.K := by rfl) : EE X W (.Subscript a b pos) (primM [oa, ob] gIx) := PE.imp (pe_ix ix_seq ha hb hs) fun σ H Q q => op2 (prim_ok (hK ▸ p_ix) q)
theorem e_dget (hr : Room k X.A) (ha : EO X W a oa) (hb : EO X W b ob) (hs : NoSl b := by intro _ _; rfl) : EE X W (.Subscript a b pos) (primM [oa, ob] gDGet) := PE.imp (pe_dget (u1 hr) ha hb hs) fun σ H Q q => op2 (prim_ok p_dget q)
theorem e_slL (ha : EO X W a oa) (hb : EO X W b ob) (hK : X.K = W.K := by rfl) : EE X W (.Subscript a (.Slice (some b) none none p2) pos) (primM [oa, ob] gSlL) :=
  PE.imp (pe_slice sl_cut ha (po_some hb) po_none) fun σ H Q q => by
    have h' : tO W oa σ H fun v H1 => tO W ob σ H1 fun w H2 => ∃ x i, [v, w] = [x, .int i] ∧ rCut W.K x (some i) none H2 Q := prim_ok p_slL q
    refine tO_mono h' fun v H1 z => tO_mono z fun w H2 ⟨x, i, e, q⟩ => ?_
    cases e
    rw [hK]
    exact ⟨i, rfl, q⟩
theorem e_slH (ha : EO X W a oa) (hb : EO X W b ob) (hK : X.K = W.K := by rfl) : EE X W (.Subscript a (.Slice none (some b) none p2) pos) (primM [oa, ob] gSlH) :=
  PE.imp (pe_slice sl_cut ha po_none (po_some hb)) fun σ H Q q => by
    have h' : tO W oa σ H fun v H1 => tO W ob σ H1 fun w H2 => ∃ x i, [v, w] = [x, .int i] ∧ rCut W.K x none (some i) H2 Q := prim_ok p_slH q
    refine tO_mono h' fun v H1 z => tO_mono z fun w H2 ⟨x, i, e, q⟩ => ?_
    cases e
    rw [hK]
    exact ⟨i, rfl, q⟩
def gSlC (i j : Int) : List T → Option Res
  | [x] => gCut x (some i) (some j)
  | _ => none
theorem p_slC {i j : Int} : PrimOk W (fun vs H Q => ∃ x, vs = [x] ∧ rCut W.K x (some i) (some j) H Q) (gSlC i j) := by
  intro av ts vs H Q res rt e tb tr q
  unfold gSlC at e
  split at e
  · obtain ⟨v, rfl, h1⟩ := rt.one
    exact ⟨v, rfl, cut_core h1 e tb tr q⟩
  · cases e
/-- bounds that are written numbers -/
theorem e_slC {i j : Int} (ha : EO X W a oa) (hb : PE X b (tC (.int i))) (hc : PE X c (tC (.int j))) (hK : X.K = W.K := by rfl) : EE X W (.Subscript a (.Slice (some b) (some c) none p2) pos) (primM [oa] (gSlC i j)) :=
  PE.imp (pe_slice sl_cut ha (po_some hb) (po_some hc)) fun σ H Q q => by
    have h' : tO W oa σ H fun v H1 => ∃ x, [v] = [x] ∧ rCut W.K x (some i) (some j) H1 Q := prim_ok p_slC q
    refine tO_mono h' fun v H1 ⟨x, e, q⟩ => ?_
    cases e
    rw [hK]
    exact ⟨i, rfl, j, rfl, q⟩
theorem c_int {k : Int} {u : Nat} : PE X (.Constant (.int k) u pos) (tC (.int k)) := pe_int
theorem c_neg {k : Int} (h : PE X a (tC (.int k))) : PE X (.UnaryOp .USub a pos) (tC (.int (-k))) := PE.imp (pe_un un_neg h) fun σ H Q q => ⟨k, rfl, q⟩
end
end
end Rv
end

section
set_option Elab.async false
set_option autoImplicit false
set_option linter.all false
set_option maxRecDepth 100000
set_option maxHeartbeats 1000000
/-! Rv15: calls, methods, displays, comprehensions, statements. -/
namespace Rv
open PySem PySem.Spec L2
open PyProof.Rows hiding St

section
variable {X : Cx} {W : Wd} {a b c e : Expr} {es rest : List Expr} {pos p p2 p3 apos cpos : Pos} {f g h : M} {oa ob oc : Op} {os : List Op} {x : Str} {i j k : Nat}
/-! ### built-in functions -/
theorem e_blt {id : String} {r : List V → Hp → VK → Prop} {gg : List T → Option Res} (hc : CallR X (.builtin id) r) (hp : PrimOk W r gg) (hv : bootBuiltins x = some (.builtin id)) (hn : x ≠ "__name__") (hdb : (x == ("__debug__" : Str)) = false) (hg : Gl X x) (hm : X.mg x = none) (ha : EA X W (e :: es) os)
    (he : starEach (e :: es) X.env = (false, eval e X.env) :: starEach es X.env) (hpl : (backTo pos (starEach es X.env)).any (·.1) = false) : EE X W (.Call (.Name x p) (e :: es) [] pos) (primM os gg) :=
  PE.imp (pe_callB hc hg hm hv ha hn hdb he hpl) fun σ H Q q => prim_ok hp q
theorem e_ty {T0 : String} {r : List V → Hp → VK → Prop} {gg : List T → Option Res} (hc : CallR X (.type T0) r) (hp : PrimOk W r gg) (hv : bootBuiltins x = some (.type T0)) (hn : x ≠ "__name__") (hdb : (x == ("__debug__" : Str)) = false) (hg : Gl X x) (hm : X.mg x = none) (ha : EA X W (e :: es) os)
    (he : starEach (e :: es) X.env = (false, eval e X.env) :: starEach es X.env) (hpl : (backTo pos (starEach es X.env)).any (·.1) = false) : EE X W (.Call (.Name x p) (e :: es) [] pos) (primM os gg) :=
  PE.imp (pe_callTy hc hg hm hv ha hn hdb he hpl) fun σ H Q q => prim_ok hp q
theorem call_lenA : CallR X (.builtin "len") (rLenA X.K) := CallR.or call_len (CallR.or call_lenD call_len_dT)
theorem e_len (hm : X.mg "len" = none) (ha : EA X W [e] os) (hg : Gl X "len" := by rfl) (hK : X.K = W.K := by rfl) (he : starEach [e] X.env = (false, eval e X.env) :: starEach [] X.env := by rfl) : EE X W (.Call (.Name "len" p) [e] [] pos) (primM os gLen) := e_blt call_lenA (hK ▸ p_len) boot_len (by decide) (by decide) hg hm ha he rfl
theorem e_all (hm : X.mg "all" = none) (ha : EA X W [e] os) (hc : X.calm = true := by rfl) (hg : Gl X "all" := by rfl) (hK : X.K = W.K := by rfl) (he : starEach [e] X.env = (false, eval e X.env) :: starEach [] X.env := by rfl) : EE X W (.Call (.Name "all" p) [e] [] pos) (primM os gAll) := e_blt (cr_all hc) (hK ▸ p_all) (by decide +kernel) (by decide) (by decide) hg hm ha he rfl
theorem e_any (hm : X.mg "any" = none) (ha : EA X W [e] os) (hc : X.calm = true := by rfl) (hg : Gl X "any" := by rfl) (hK : X.K = W.K := by rfl) (he : starEach [e] X.env = (false, eval e X.env) :: starEach [] X.env := by rfl) : EE X W (.Call (.Name "any" p) [e] [] pos) (primM os gAny) := e_blt (cr_any hc) (hK ▸ p_any) (by decide +kernel) (by decide) (by decide) hg hm ha he rfl
theorem e_abs (hm : X.mg "abs" = none) (ha : EA X W [e] os) (hg : Gl X "abs" := by rfl) (he : starEach [e] X.env = (false, eval e X.env) :: starEach [] X.env := by rfl) : EE X W (.Call (.Name "abs" p) [e] [] pos) (primM os gAbs) := e_blt call_abs p_abs (by decide +kernel) (by decide) (by decide) hg hm ha he rfl
theorem e_max (hm : X.mg "max" = none) (ha : EA X W [a, b] os) (hc : X.calm = true := by rfl) (hg : Gl X "max" := by rfl) (he : starEach [a, b] X.env = (false, eval a X.env) :: starEach [b] X.env := by rfl) (hpl : (backTo pos (starEach [b] X.env)).any (·.1) = false := by rfl) : EE X W (.Call (.Name "max" p) [a, b] [] pos) (primM os gMax2) := e_blt (call_max2 hc) p_max2 (by decide +kernel) (by decide) (by decide) hg hm ha he hpl
theorem e_min (hm : X.mg "min" = none) (ha : EA X W [a, b] os) (hc : X.calm = true := by rfl) (hg : Gl X "min" := by rfl) (he : starEach [a, b] X.env = (false, eval a X.env) :: starEach [b] X.env := by rfl) (hpl : (backTo pos (starEach [b] X.env)).any (·.1) = false := by rfl) : EE X W (.Call (.Name "min" p) [a, b] [] pos) (primM os gMin2) := e_blt (call_min2 hc) p_min2 (by decide +kernel) (by decide) (by decide) hg hm ha he hpl
theorem e_dm (hm : X.mg "divmod" = none) (ha : EA X W [a, b] os) (hg : Gl X "divmod" := by rfl) (he : starEach [a, b] X.env = (false, eval a X.env) :: starEach [b] X.env := by rfl) (hpl : (backTo pos (starEach [b] X.env)).any (·.1) = false := by rfl) : EE X W (.Call (.Name "divmod" p) [a, b] [] pos) (primM os gDivmod) := e_blt call_divmod p_divmod (by decide +kernel) (by decide) (by decide) hg hm ha he hpl
theorem e_sorted (hr : Room k X.A) (hm : X.mg "sorted" = none) (ha : EA X W [e] os) (hg : Gl X "sorted" := by rfl) (hK : X.K = W.K := by rfl) (he : starEach [e] X.env = (false, eval e X.env) :: starEach [] X.env := by rfl) : EE X W (.Call (.Name "sorted" p) [e] [] pos) (primM os gSort) := e_blt (cr_srt (u64 hr)) (hK ▸ p_sort) (by decide +kernel) (by decide) (by decide) hg hm ha he rfl
theorem e_toint (hm : X.mg "int" = none) (ha : EA X W [e] os) (hg : Gl X "int" := by rfl) (he : starEach [e] X.env = (false, eval e X.env) :: starEach [] X.env := by rfl) : EE X W (.Call (.Name "int" p) [e] [] pos) (primM os gInt) := e_ty call_int1 p_int (by decide +kernel) (by decide) (by decide) hg hm ha he rfl
theorem e_totup (hm : X.mg "tuple" = none) (ha : EA X W [e] os) (hg : Gl X "tuple" := by rfl) (hK : X.K = W.K := by rfl) (he : starEach [e] X.env = (false, eval e X.env) :: starEach [] X.env := by rfl) : EE X W (.Call (.Name "tuple" p) [e] [] pos) (primM os gTupOf) := e_ty call_tupF (hK ▸ p_tupOf) (by decide +kernel) (by decide) (by decide) hg hm ha he rfl
theorem e_tolst (hm : X.mg "list" = none) (ha : EA X W [e] os) (hg : Gl X "list" := by rfl) (hK : X.K = W.K := by rfl) (he : starEach [e] X.env = (false, eval e X.env) :: starEach [] X.env := by rfl) : EE X W (.Call (.Name "list" p) [e] [] pos) (primM os gLstOf) := e_ty call_list_of (hK ▸ p_lstOf) (by decide +kernel) (by decide) (by decide) hg hm ha he rfl
/-- isinstance(e, T), T a built-in type -/
theorem c_ty {n : String} (hg : Gl X x) (hm : X.mg x = none) (hv : bootBuiltins x = some (.type n)) (hn : x ≠ "__name__" := by decide) (hd : (x == ("__debug__" : Str)) = false := by decide) : PE X (.Name x pos) (tC (.ty n)) :=
  ⟨fun pins s σ H Q I q => ld_blt I hg hm hv ⟨.ty n, H, I, rfl, q⟩ hn hd⟩
theorem e_isi {n : String} (hm : X.mg "isinstance" = none) (ha : EO X W e oa) (hb : PE X b (tC (.ty n))) (hg : Gl X "isinstance" := by rfl) (hK : X.K = W.K := by rfl) (he : starEach [e, b] X.env = (false, eval e X.env) :: starEach [b] X.env := by rfl) (he2 : starEach [b] X.env = (false, eval b X.env) :: starEach [] X.env := by rfl) (hpl : (backTo pos (starEach [b] X.env)).any (·.1) = false := by rfl) :
    EE X W (.Call (.Name "isinstance" p) [e, b] [] pos) (primM [oa] (gIsi n)) :=
  PE.imp (pe_callB call_isi hg hm PyProof.Rows.boot_isinstance (pa_cons ha (pa_cons hb pa_nil he2) he) (by decide) (by decide) he hpl) fun σ H Q q => by
    have h' : tO W oa σ H fun v H1 => rIsi1 n W.K [v] H1 Q := prim_ok p_isi q
    refine tO_mono h' fun v H1 ⟨y, t, b, e, ty, kk, q⟩ => ?_
    cases e
    rw [hK]
    exact ⟨_, _, t, _, b, rfl, .ty n, ty, kk, q⟩
/-! ### displays -/
theorem e_tup {u : Nat} (h : EA X W es os) : EE X W (.Tuple es u pos) (storeM os gMkT) := PE.imp (pe_tup h) fun σ H Q q => store_ok s_tup q
theorem e_lst (h : EA X W es os) : EE X W (.List es pos) (storeM os gMkL) := PE.imp (pe_lst h) fun σ H Q q => store_ok s_lst q
theorem e_tstar {u : Nat} (ha : EE X W a f) (hb : EE X W b g) (hK : X.K = W.K := by rfl) (hs : starEach [.Starred a p, b] X.env = (true, eval a X.env) :: starEach [b] X.env := by rfl) (hs2 : starEach [b] X.env = (false, eval b X.env) :: starEach [] X.env := by rfl) : EE X W (.Tuple [.Starred a p, b] u pos) (starM f g) :=
  PE.imp (pe_tup (StX.pa_star ha (pa_cons hb pa_nil hs2) hs)) fun σ H Q q => by rw [hK]; exact star_ok q
theorem e_disp (ha : EE X W a f) (hb : EE X W b g) : EE X W (.Dict [some a] [b] pos) (dispM f g) :=
  PE.imp (pe_disp (pps_cons ha hb pps_nil) rfl rfl (by simp) (by simp)) fun σ H Q q => disp_ok q
/-! ### methods -/
theorem e_append (i : Nat) (hv : PE X a (tVar i)) (ho : EA X W [e] os) (hK : X.K = W.K := by rfl) (hbase : attributeBase a "append" X.env (eval a X.env) = eval a X.env := by rfl) (hline : (apos.endLine == cpos.line) = true := by rfl)
    (hfew : ((backTo cpos (starEach [e] X.env)).all (fun x => !x.1) && (backToKw cpos (keywordEach [] X.env)).all (fun x => x.1.isSome) && decide (([e] : List Expr).length + ([] : List Keyword).length + (if ([] : List Keyword).isEmpty then 0 else 1) < 30)) = true := by rfl)
    (hs : starEach [e] X.env = (false, eval e X.env) :: starEach [] X.env := by rfl) (hpl : (backTo cpos (starEach [] X.env)).any (·.1) = false := by rfl) :
    EE X W (.Call (.Attribute a "append" apos) [e] [] cpos) (mutTM "list" i os gAppend) :=
  PE.imp (pe_bm PySem.F.plainAttrs_list PySem.F.slot_list_append PySem.F.type_list_append mt_append hv ho hbase hfew hline hs hpl) fun σ H Q q => by rw [hK]; exact mut_ok (by decide) mu_append q
theorem e_extend (i : Nat) (hv : PE X a (tVar i)) (ho : EA X W [e] os) (hK : X.K = W.K := by rfl) (hbase : attributeBase a "extend" X.env (eval a X.env) = eval a X.env := by rfl) (hline : (apos.endLine == cpos.line) = true := by rfl)
    (hfew : ((backTo cpos (starEach [e] X.env)).all (fun x => !x.1) && (backToKw cpos (keywordEach [] X.env)).all (fun x => x.1.isSome) && decide (([e] : List Expr).length + ([] : List Keyword).length + (if ([] : List Keyword).isEmpty then 0 else 1) < 30)) = true := by rfl)
    (hs : starEach [e] X.env = (false, eval e X.env) :: starEach [] X.env := by rfl) (hpl : (backTo cpos (starEach [] X.env)).any (·.1) = false := by rfl) :
    EE X W (.Call (.Attribute a "extend" apos) [e] [] cpos) (mutTM "list" i os gExtend) :=
  PE.imp (pe_bm PySem.F.plainAttrs_list PySem.F.slot_list_extend PySem.F.type_list_extend mt_extend hv ho hbase hfew hline hs hpl) fun σ H Q q => by rw [hK]; exact mut_ok (by decide) mu_extend q
theorem e_pop (i : Nat) (hv : PE X a (tVar i)) (hK : X.K = W.K := by rfl) (hbase : attributeBase a "pop" X.env (eval a X.env) = eval a X.env := by rfl) (hline : (apos.endLine == cpos.line) = true := by rfl) :
    EE X W (.Call (.Attribute a "pop" apos) [] [] cpos) (mutTM "list" i [] gPop) :=
  PE.imp (pe_bm0 PySem.F.plainAttrs_list PySem.F.slot_list_pop PySem.F.type_list_pop mt_pop hv hbase hline) fun σ H Q q => by
    have q' : tBM W.K "list" rPop (tVar i) (tOs W []) σ H Q := mut_ok (by decide) mu_pop q
    rw [hK]; exact q'
end
end Rv
end

section
set_option Elab.async false
set_option autoImplicit false
set_option linter.all false
set_option maxRecDepth 100000
set_option maxHeartbeats 1000000
/-! Rv16: comprehensions, statements, calls of defs. -/
namespace Rv
open PySem PySem.Spec L2
open PyProof.Rows hiding St

section
variable {X : Cx} {W : Wd} {a b c e : Expr} {es rest : List Expr} {pos p p2 p3 apos cpos : Pos} {f g h : M} {oa ob oc : Op} {os : List Op} {x y : Str} {i j k : Nat} {src : SrcM} {sts sts2 : List Stmt} {st : Stmt} {m m2 : SM} {tgE : Expr}
/-! ### what is walked -/
abbrev EI (X : Cx) (W : Wd) (tg iter : Expr) (s : SrcM) : Prop := PI X tg iter (tI W s)
theorem i_seq (h : EE X W e f) (hK : X.K = W.K := by rfl) : EI X W tgE e (srcM f) := PI.imp (pi_seq h) fun σ H Q q => by rw [hK]; exact src_ok q
theorem i_str (h : EE X W e f) : EI X W tgE e (strM f) := PI.imp (pi_str h) fun σ H Q q => strM_ok q
theorem i_rng1 (hm : X.mg "range" = none) (h : EO X W a oa) (hg : Gl X "range" := by rfl) (hs : starEach [a] X.env = (false, eval a X.env) :: starEach [] X.env := by rfl) : EI X W tgE (.Call (.Name "range" p) [a] [] pos) (rng1M oa) := PI.imp (pi_range1 hg hm (pa_cons h pa_nil hs) hs) fun σ H Q q => rng1_ok q
theorem i_rng2 (hm : X.mg "range" = none) (h : EO X W a oa) (h2 : EO X W b ob) (hg : Gl X "range" := by rfl) (hs : starEach [a, b] X.env = [(false, eval a X.env), (false, eval b X.env)] := by rfl) (hs2 : starEach [b] X.env = [(false, eval b X.env)] := by rfl) : EI X W tgE (.Call (.Name "range" p) [a, b] [] pos) (rng2M oa ob) :=
  PI.imp (pi_range2 hg hm (pa_cons h (pa_cons h2 pa_nil hs2) (by rw [hs, hs2])) hs hs2) fun σ H Q q => rng2_ok q
theorem i_enum {elts : List Expr} {kk : Nat} (hm : X.mg "enumerate" = none) (h : EE X W a f) (hg : Gl X "enumerate" := by rfl) (hs : starEach [a] X.env = (false, eval a X.env) :: starEach [] X.env := by rfl) (hK : X.K = W.K := by rfl) : EI X W (.Tuple elts kk p2) (.Call (.Name "enumerate" p) [a] [] pos) (enumM f) :=
  PI.imp (pi_enumT hg hm (pa_cons h pa_nil hs) hs) fun σ H Q q => by rw [hK]; exact enum_ok q
/-! ### targets -/
theorem PG.imp {t t' : TG} (h : PG X tgE t) (k : ∀ v σ H Q, t' v σ H Q → t v σ H Q) : PG X tgE t' := ⟨fun pins s σ H v u Q I r q => h.run pins s σ H v u Q I r (k _ _ _ _ q)⟩
abbrev EG (X : Cx) (W : Wd) (tg : Expr) (t : Tg) : Prop := PG X tg (gOf W t)
theorem g_nm (i : Nat) (hN : X.N.Nodup) (hi : X.N[i]? = some x) (hx : Loc X.env.scope x) (hf : X.fn x = true ∨ X.env.scope.names.lookup x = some .local) : EG X W (.Name x pos) (.nm i) := PG.imp (pg_name hN hi hx hf) fun v σ H Q q => g_name q
theorem g_tp2 {u : Nat} {xp yp : Pos} (i j : Nat) (hc : X.calm = true) (hN : X.N.Nodup) (hi : X.N[i]? = some x) (hx : Loc X.env.scope x) (hf : X.fn x = true ∨ X.env.scope.names.lookup x = some .local) (hj : X.N[j]? = some y) (hy : Loc X.env.scope y) (hfy : X.fn y = true ∨ X.env.scope.names.lookup y = some .local)
    (hs : (assignEach [.Name x xp, .Name y yp] X.env).map (·.2) = assign (.Name x xp) X.env :: (assignEach [.Name y yp] X.env).map (·.2) := by rfl) (hs2 : (assignEach [.Name y yp] X.env).map (·.2) = assign (.Name y yp) X.env :: (assignEach [] X.env).map (·.2) := by rfl)
    (hn : (assignEach [.Name x xp, .Name y yp] X.env).length = 2 := by rfl) (hst : (assignEach [.Name x xp, .Name y yp] X.env).findIdx? (·.1) = none := by rfl) (hK : X.K = W.K := by rfl) : EG X W (.Tuple [.Name x xp, .Name y yp] u pos) (.tp [i, j]) :=
  PG.imp (pg_tup hc (pgs_cons (pg_name hN hi hx hf) (pgs_cons (pg_name hN hj hy hfy) pgs_nil hs2) hs) hn hst) fun v σ H Q q => by rw [hK]; exact g_tup q
/-! ### comprehensions -/
theorem PTs.imp {t t' : TT} {ifs : List Expr} (h : PTs X ifs t) (k : ∀ σ H Q, t' σ H Q → t σ H Q) : PTs X ifs t' := ⟨fun pins s σ H Q I q => h.run pins s σ H Q I (k _ _ _ q)⟩
abbrev EF (X : Cx) (W : Wd) (ifs : List Expr) (f : M) : Prop := PTs X ifs (tOfT W f)
theorem f_nil : EF X W [] yesM := PTs.imp pts_nil fun σ H Q q => yes_ok q
theorem f_one (h : ET X W c f) : EF X W [c] f := pts_one h
theorem e_lc {elt iter : Expr} {ifs : List Expr} {scope : Scope} {own : List (Str × Nat)} {vs : List Nat} {cond : M} {tg : Tg} (hc : X.calm = true) (hN : X.N.Nodup) (hi : EI X W tgE iter src) (ok : BlkOk X.N X.env.scope scope own)
    (hg : ∀ (s : Shared) (H : Hp) (C : Addr) (cl : List (Str × Addr)) (fp : List Addr), EG (X.blk s H scope (compEnvC scope cl C X.env) fp) W tgE tg) (ht : ∀ (s : Shared) (H : Hp) (C : Addr) (cl : List (Str × Addr)) (fp : List Addr), EF (X.blk s H scope (compEnvC scope cl C X.env) fp) W ifs cond)
    (he : ∀ (s : Shared) (H : Hp) (C : Addr) (cl : List (Str × Addr)) (fp : List Addr), EE (X.blk s H scope (compEnvC scope cl C X.env) fp) W elt f) (hv : own.map (·.2) = vs := by rfl) (hsl : ∀ i ∈ tg.slots, i ∈ vs := by decide) (hs : ∀ x, foldedSetIterable iter X.env x = pure x := by intro _; rfl) :
    EE X W (.ListComp elt [⟨tgE, iter, ifs, 0⟩] scope pos) (compM src tg cond f vs) := by
  subst hv
  exact PE.imp (pe_lc hc hN hi ok hg ht he hs) fun σ H Q q => comp_ok (fun _ _ _ _ z => z) hsl q
theorem e_dc {elt vx iter : Expr} {ifs : List Expr} {scope : Scope} {own : List (Str × Nat)} {vs : List Nat} {cond : M} {tg : Tg} (hc : X.calm = true) (hN : X.N.Nodup) (hi : EI X W tgE iter src) (ok : BlkOk X.N X.env.scope scope own)
    (hg : ∀ (s : Shared) (H : Hp) (C : Addr) (cl : List (Str × Addr)) (fp : List Addr), EG (X.blk s H scope (compEnvC scope cl C X.env) fp) W tgE tg) (ht : ∀ (s : Shared) (H : Hp) (C : Addr) (cl : List (Str × Addr)) (fp : List Addr), EF (X.blk s H scope (compEnvC scope cl C X.env) fp) W ifs cond)
    (hk : ∀ (s : Shared) (H : Hp) (C : Addr) (cl : List (Str × Addr)) (fp : List Addr), EE (X.blk s H scope (compEnvC scope cl C X.env) fp) W elt f)
    (he : ∀ (s : Shared) (H : Hp) (C : Addr) (cl : List (Str × Addr)) (fp : List Addr), EE (X.blk s H scope (compEnvC scope cl C X.env) fp) W vx g) (hv : own.map (·.2) = vs := by rfl) (hsl : ∀ i ∈ tg.slots, i ∈ vs := by decide) (hs : ∀ x, foldedSetIterable iter X.env x = pure x := by intro _; rfl) :
    EE X W (.DictComp elt vx [⟨tgE, iter, ifs, 0⟩] scope pos) (dcM src tg cond f g vs) := by
  subst hv
  exact PE.imp (pe_dc hc hN hi ok hg ht hk he hs) fun σ H Q q => dc_ok (fun _ _ _ _ z => z) hsl q
theorem e_lc2 {elt iter tgE1 iter1 : Expr} {ifs ifs1 : List Expr} {scope : Scope} {own : List (Str × Nat)} {vs vs1 : List Nat} {cond cond1 : M} {tg tg1 : Tg} {src1 : SrcM} (hc : X.calm = true) (hN : X.N.Nodup) (hi : EI X W tgE iter src) (ok : BlkOk X.N X.env.scope scope own)
    (hg : ∀ (s : Shared) (H : Hp) (C : Addr) (cl : List (Str × Addr)) (fp : List Addr), EG (X.blk s H scope (compEnvC scope cl C X.env) fp) W tgE tg) (ht : ∀ (s : Shared) (H : Hp) (C : Addr) (cl : List (Str × Addr)) (fp : List Addr), EF (X.blk s H scope (compEnvC scope cl C X.env) fp) W ifs cond)
    (hi1 : ∀ (s : Shared) (H : Hp) (C : Addr) (cl : List (Str × Addr)) (fp : List Addr), EI (X.blk s H scope (compEnvC scope cl C X.env) fp) W tgE1 iter1 src1)
    (hg1 : ∀ (s : Shared) (H : Hp) (C : Addr) (cl : List (Str × Addr)) (fp : List Addr), EG (X.blk s H scope (compEnvC scope cl C X.env) fp) W tgE1 tg1) (ht1 : ∀ (s : Shared) (H : Hp) (C : Addr) (cl : List (Str × Addr)) (fp : List Addr), EF (X.blk s H scope (compEnvC scope cl C X.env) fp) W ifs1 cond1)
    (he : ∀ (s : Shared) (H : Hp) (C : Addr) (cl : List (Str × Addr)) (fp : List Addr), EE (X.blk s H scope (compEnvC scope cl C X.env) fp) W elt f) (hv : own.map (·.2) = vs := by rfl) (hsl : ∀ i ∈ tg.slots, i ∈ vs := by decide) (hsl1 : ∀ i ∈ tg1.slots, i ∈ vs1 := by decide) (hv1 : ∀ i ∈ vs1, i ∈ vs := by decide) (hs : ∀ x, foldedSetIterable iter X.env x = pure x := by intro _; rfl) (hs1 : ∀ env x, foldedSetIterable iter1 env x = pure x := by intro _ _; rfl) :
    EE X W (.ListComp elt [⟨tgE, iter, ifs, 0⟩, ⟨tgE1, iter1, ifs1, 0⟩] scope pos) (comp2M src tg cond src1 tg1 cond1 f vs vs1) := by
  subst hv
  exact PE.imp (pe_lc2 hc hN hi ok hv1 hg ht hi1 hg1 ht1 he hs hs1) fun σ H Q q => comp2_ok (fun _ _ _ _ z => z) hsl (fun _ _ _ _ z => z) hsl1 hv1 q
/-! ### statements -/
theorem ss_nil : ESs X W [] nopM := PSs.imp pss_nil fun D σ H q => nop_ok q
theorem ss_cons (h1 : ES X W st m) (h2 : ESs X W sts m2) : ESs X W (st :: sts) (seqM m m2) := PSs.imp (pss_cons h1 h2) fun D σ H q => seq_ok q
theorem ss_one (h1 : ES X W st m) : ESs X W [st] m := pss_one h1
def noM : SM := fun _ => none
theorem noM_ok {D : Ends} {σ : St} {H : Hp} (h : tSf W noM D σ H) : tNever D σ H := by
  obtain ⟨P, C, Z, A, ρ, out, ρ', S, e, q⟩ := h
  cases e
theorem s_no : ES X W st noM := PS.imp ps_never fun D σ H q => noM_ok q
theorem s_expr (he : EE X W e f) (hs : swapsWith e none pos.line X.env = pure false := by rfl) : ES X W (.Expr e pos) (dropM f) := PS.imp (ps_expr he hs) fun D σ H q => drop_ok q
theorem s_ret (he : EE X W e f) : ES X W (.Return (some e) pos) (retM f) := PS.imp (ps_ret he) fun D σ H q => ret_ok q
theorem s_retV (i : Nat) (he : PE X e (tVar i)) : ES X W (.Return (some e) pos) (retVM i) := PS.imp (ps_ret he) fun D σ H q => retV_ok q
theorem s_retN : ES X W (.Return none pos) retNM := PS.imp ps_retN fun D σ H q => retN_ok q
theorem s_if {sts3 : List Stmt} (hc : ET X W c f) (ha : ESs X W sts m) (hb : ESs X W sts3 m2) : ES X W (.If c sts sts3 pos) (ifM f m m2) := PS.imp (ps_if hc ha hb) fun D σ H q => if_ok q
theorem s_set (i : Nat) (hN : X.N.Nodup) (hi : X.N[i]? = some x) (hx : Loc X.env.scope x) (hf : X.fn x = true ∨ X.env.scope.names.lookup x = some .local) (he : EE X W e f) (hs : swapsWith e (some (.Name x p)) pos.line X.env = pure false := by rfl) : ES X W (.Assign [.Name x p] e pos) (asgM i f) :=
  PS.imp (ps_set hN hi hx he hs hf) fun D σ H q => asg_ok q
theorem s_setLc {elt iter : Expr} {ifs : List Expr} {scope : Scope} {own : List (Str × Nat)} {vs : List Nat} {cond : M} {tg : Tg} (i : Nat) (hc : X.calm = true) (hN : X.N.Nodup) (hy : X.N[i]? = some y) (hyl : X.env.scope.names.lookup y = some .local)
    (hsw : swapsWith (.ListComp elt [⟨tgE, iter, ifs, 0⟩] scope pos) (some (.Name y p2)) p.line X.env = pure true) (hi : EI X W tgE iter src) (ok : BlkOk X.N X.env.scope scope own)
    (hg : ∀ (s : Shared) (H : Hp) (C : Addr) (cl : List (Str × Addr)) (fp : List Addr), EG (X.blk s H scope (compEnvC scope cl C X.env) fp) W tgE tg) (ht : ∀ (s : Shared) (H : Hp) (C : Addr) (cl : List (Str × Addr)) (fp : List Addr), EF (X.blk s H scope (compEnvC scope cl C X.env) fp) W ifs cond)
    (he : ∀ (s : Shared) (H : Hp) (C : Addr) (cl : List (Str × Addr)) (fp : List Addr), EE (X.blk s H scope (compEnvC scope cl C X.env) fp) W elt f) (hv : own.map (·.2) = vs := by rfl) (hsl : ∀ i ∈ tg.slots, i ∈ vs := by decide) (hs : ∀ x, foldedSetIterable iter X.env x = pure x := by intro _; rfl) :
    ES X W (.Assign [.Name y p2] (.ListComp elt [⟨tgE, iter, ifs, 0⟩] scope pos) p) (asgM i (compM src tg cond f vs)) := by
  subst hv
  refine PS.imp (ps_setLc hc hN hy hyl hsw hi ok hg ht he hs) fun D σ H q => ?_
  have q' : tAsg (tOf W (compM src tg cond f (own.map (·.2)))) (gName i) D σ H := asg_ok q
  exact comp_ok (fun _ _ _ _ z => z) hsl q'
theorem s_setLc2 {elt iter tgE1 iter1 : Expr} {ifs ifs1 : List Expr} {scope : Scope} {own : List (Str × Nat)} {vs vs1 : List Nat} {cond cond1 : M} {tg tg1 : Tg} {src1 : SrcM} (i : Nat) (hc : X.calm = true) (hN : X.N.Nodup) (hy : X.N[i]? = some y) (hyl : X.env.scope.names.lookup y = some .local)
    (hsw : swapsWith (.ListComp elt [⟨tgE, iter, ifs, 0⟩, ⟨tgE1, iter1, ifs1, 0⟩] scope pos) (some (.Name y p2)) p.line X.env = pure true) (hi : EI X W tgE iter src) (ok : BlkOk X.N X.env.scope scope own)
    (hg : ∀ (s : Shared) (H : Hp) (C : Addr) (cl : List (Str × Addr)) (fp : List Addr), EG (X.blk s H scope (compEnvC scope cl C X.env) fp) W tgE tg) (ht : ∀ (s : Shared) (H : Hp) (C : Addr) (cl : List (Str × Addr)) (fp : List Addr), EF (X.blk s H scope (compEnvC scope cl C X.env) fp) W ifs cond)
    (hi1 : ∀ (s : Shared) (H : Hp) (C : Addr) (cl : List (Str × Addr)) (fp : List Addr), EI (X.blk s H scope (compEnvC scope cl C X.env) fp) W tgE1 iter1 src1)
    (hg1 : ∀ (s : Shared) (H : Hp) (C : Addr) (cl : List (Str × Addr)) (fp : List Addr), EG (X.blk s H scope (compEnvC scope cl C X.env) fp) W tgE1 tg1) (ht1 : ∀ (s : Shared) (H : Hp) (C : Addr) (cl : List (Str × Addr)) (fp : List Addr), EF (X.blk s H scope (compEnvC scope cl C X.env) fp) W ifs1 cond1)
    (he : ∀ (s : Shared) (H : Hp) (C : Addr) (cl : List (Str × Addr)) (fp : List Addr), EE (X.blk s H scope (compEnvC scope cl C X.env) fp) W elt f) (hv : own.map (·.2) = vs := by rfl) (hsl : ∀ i ∈ tg.slots, i ∈ vs := by decide) (hsl1 : ∀ i ∈ tg1.slots, i ∈ vs1 := by decide) (hv1 : ∀ i ∈ vs1, i ∈ vs := by decide) (hs : ∀ x, foldedSetIterable iter X.env x = pure x := by intro _; rfl) (hs1 : ∀ env x, foldedSetIterable iter1 env x = pure x := by intro _ _; rfl) :
    ES X W (.Assign [.Name y p2] (.ListComp elt [⟨tgE, iter, ifs, 0⟩, ⟨tgE1, iter1, ifs1, 0⟩] scope pos) p) (asgM i (comp2M src tg cond src1 tg1 cond1 f vs vs1)) := by
  subst hv
  refine PS.imp (ps_setLc2 hc hN hy hyl hsw hi ok hv1 hg ht hi1 hg1 ht1 he hs hs1) fun D σ H q => ?_
  have q' : tAsg (tOf W (comp2M src tg cond src1 tg1 cond1 f (own.map (·.2)) vs1)) (gName i) D σ H := asg_ok q
  exact comp2_ok (fun _ _ _ _ z => z) hsl (fun _ _ _ _ z => z) hsl1 hv1 q'
/-- names = a tuple -/
theorem s_setT {is : List Nat} {n : Nat} (he : EE X W e f) (hg : PG X tgE (L2.gTup X.K n (gNames is))) (hn : is.length = n := by rfl) (hs : swapsWithSole [tgE] e pos.line X.env = pure false := by rfl) (hw : swappedStores [tgE] e X.env = pure none := by rfl) (h1 : (assignEach [tgE] X.env).map (·.2) = [assign tgE X.env] := by rfl) (hK : X.K = W.K := by rfl) :
    ES X W (.Assign [tgE] e pos) (asgTM is f) := by
  subst hn
  exact PS.imp (ps_asg he hg hs hw h1) fun D σ H q => by rw [hK]; exact asgT_ok q
theorem gn2 {u : Nat} {xp yp : Pos} (i j : Nat) (hc : X.calm = true) (hN : X.N.Nodup) (hi : X.N[i]? = some x) (hx : Loc X.env.scope x) (hf : X.fn x = true ∨ X.env.scope.names.lookup x = some .local) (hj : X.N[j]? = some y) (hy : Loc X.env.scope y) (hfy : X.fn y = true ∨ X.env.scope.names.lookup y = some .local)
    (hs : (assignEach [.Name x xp, .Name y yp] X.env).map (·.2) = assign (.Name x xp) X.env :: (assignEach [.Name y yp] X.env).map (·.2) := by rfl) (hs2 : (assignEach [.Name y yp] X.env).map (·.2) = assign (.Name y yp) X.env :: (assignEach [] X.env).map (·.2) := by rfl)
    (hn : (assignEach [.Name x xp, .Name y yp] X.env).length = 2 := by rfl) (hst : (assignEach [.Name x xp, .Name y yp] X.env).findIdx? (·.1) = none := by rfl) : PG X (.Tuple [.Name x xp, .Name y yp] u pos) (L2.gTup X.K 2 (gNames [i, j])) :=
  pg_tup hc (pgs_cons (pg_name hN hi hx hf) (pgs_cons (pg_name hN hj hy hfy) pgs_nil hs2) hs) hn hst
theorem gn3 {u : Nat} {z : Str} {xp yp zp : Pos} (i j k : Nat) (hc : X.calm = true) (hN : X.N.Nodup) (hi : X.N[i]? = some x) (hx : Loc X.env.scope x) (hf : X.fn x = true ∨ X.env.scope.names.lookup x = some .local) (hj : X.N[j]? = some y) (hy : Loc X.env.scope y) (hfy : X.fn y = true ∨ X.env.scope.names.lookup y = some .local) (hk : X.N[k]? = some z) (hz : Loc X.env.scope z) (hfz : X.fn z = true ∨ X.env.scope.names.lookup z = some .local)
    (hs : (assignEach [.Name x xp, .Name y yp, .Name z zp] X.env).map (·.2) = assign (.Name x xp) X.env :: (assignEach [.Name y yp, .Name z zp] X.env).map (·.2) := by rfl) (hs2 : (assignEach [.Name y yp, .Name z zp] X.env).map (·.2) = assign (.Name y yp) X.env :: (assignEach [.Name z zp] X.env).map (·.2) := by rfl) (hs3 : (assignEach [.Name z zp] X.env).map (·.2) = assign (.Name z zp) X.env :: (assignEach [] X.env).map (·.2) := by rfl)
    (hn : (assignEach [.Name x xp, .Name y yp, .Name z zp] X.env).length = 3 := by rfl) (hst : (assignEach [.Name x xp, .Name y yp, .Name z zp] X.env).findIdx? (·.1) = none := by rfl) : PG X (.Tuple [.Name x xp, .Name y yp, .Name z zp] u pos) (L2.gTup X.K 3 (gNames [i, j, k])) :=
  pg_tup hc (pgs_cons (pg_name hN hi hx hf) (pgs_cons (pg_name hN hj hy hfy) (pgs_cons (pg_name hN hk hz hfz) pgs_nil hs3) hs2) hs) hn hst
/-- a, b = e1, e2 -/
theorem s_par {u u2 : Nat} {xp yp tp tp2 : Pos} (i j : Nat) (hc : X.calm = true) (hN : X.N.Nodup) (hi : X.N[i]? = some x) (hj : X.N[j]? = some y) (hij : i ≠ j) (hx : X.env.scope.names.lookup x = some .local) (hy : X.env.scope.names.lookup y = some .local) (ha : EE X W a f) (hb : EE X W b g)
    (hw : swappedStores [.Tuple [.Name x xp, .Name y yp] u tp] (.Tuple [a, b] u2 tp2) X.env = pure (some [x, y])) (hs : swapsWithSole [.Tuple [.Name x xp, .Name y yp] u tp] (.Tuple [a, b] u2 tp2) pos.line X.env = pure false := by rfl)
    (ha1 : starEach [a, b] X.env = (false, eval a X.env) :: starEach [b] X.env := by rfl) (ha2 : starEach [b] X.env = (false, eval b X.env) :: starEach [] X.env := by rfl) :
    ES X W (.Assign [.Tuple [.Name x xp, .Name y yp] u tp] (.Tuple [a, b] u2 tp2) pos) (parM i j f g) :=
  PS.imp (ps_par hc hN hi hj hij hx hy (pa_cons ha (pa_cons hb pa_nil ha2) ha1) hw hs) fun D σ H q => par_ok q
theorem s_parT {u2 : Nat} {tp2 : Pos} (i j : Nat) (ha : EE X W a f) (hb : EE X W b g) (hg : PG X tgE (L2.gTup X.K 2 (gNames [i, j]))) (hs : swapsWithSole [tgE] (.Tuple [a, b] u2 tp2) pos.line X.env = pure false := by rfl) (hw : swappedStores [tgE] (.Tuple [a, b] u2 tp2) X.env = pure none := by rfl) (h1 : (assignEach [tgE] X.env).map (·.2) = [assign tgE X.env] := by rfl) (hK : X.K = W.K := by rfl)
    (ha1 : starEach [a, b] X.env = (false, eval a X.env) :: starEach [b] X.env := by rfl) (ha2 : starEach [b] X.env = (false, eval b X.env) :: starEach [] X.env := by rfl) :
    ES X W (.Assign [tgE] (.Tuple [a, b] u2 tp2) pos) (parM i j f g) :=
  PS.imp (ps_asg (pe_tup (pa_cons ha (pa_cons hb pa_nil ha2) ha1)) hg hs hw h1) fun D σ H q => by rw [hK]; exact parT_ok q
/-- o[k] = e, o a list -/
theorem s_setL (i : Nat) (ho : PE X a (tVar i)) (hk : EO X W b ob) (he : EO X W e oa)
    (ha : ∀ v, assign (.Subscript a b p) X.env v = (do
      let ov ← holding [v] (eval a X.env)
      let iv ← holding [v, ov] (eval b X.env)
      standAt p
      holding [v, ov, iv] (setItem ov iv v)
      release [v, ov, iv] []) := by intro _; rfl) (hs : swapsWithSole [.Subscript a b p] e pos.line X.env = pure false := by rfl) (hw : swappedStores [.Subscript a b p] e X.env = pure none := by rfl) (h1 : (assignEach [.Subscript a b p] X.env).map (·.2) = [assign (.Subscript a b p) X.env] := by rfl) :
    ES X W (.Assign [.Subscript a b p] e pos) (dropM (mutM i [oa, ob] gSetL)) :=
  PS.imp (ps_asg he (pg_sub ho hk set_list ha) hs hw h1) fun D σ H q => setL_ok q
theorem s_dput (hr : Room k X.A) (i : Nat) (ho : PE X a (tVar i)) (hk : EO X W b ob) (he : EO X W e oa) (hs : swapsWith e (some (.Subscript a b p)) pos.line X.env = pure false := by rfl) :
    ES X W (.Assign [.Subscript a b p] e pos) (dropM (mutM i [oa, ob] gDPut)) :=
  PS.imp (ps_dput (u1 hr) ho hk he hs) fun D σ H q => dput_ok mu_dput q
theorem s_for {tg : Tg} (hp : PassesOwn (model X.prog X.w) X.A X.env X.xe) (hc : X.calm = true) (hi : EI X W tgE e src) (hg : EG X W tgE tg) (hb : ESs X W sts m) (hs : ∀ x, foldedSetIterable e X.env x = pure x := by intro _; rfl) : ES X W (.For tgE e sts [] pos) (forM src tg m) :=
  PS.imp (ps_for hp hc hi hg hb hs) fun D σ H q => for_ok (fun _ _ _ _ z => z) q
theorem s_while (n : Nat) (hp : PassesOwn (model X.prog X.w) X.A X.env X.xe) (hc : ET X W c f) (hb : ESs X W sts m) : ES X W (.While c sts [] pos) (whileLoop f m n) :=
  PS.imp (ps_while hp hc hb) fun D σ H q => while_ok q
end
end Rv
end

section
set_option Elab.async false
set_option autoImplicit false
set_option linter.all false
set_option maxRecDepth 100000
set_option maxHeartbeats 1000000
/-! Rv17: defs and their calls, objects, properties. -/
namespace Rv
open PySem PySem.Spec L2
open PyProof.Rows hiding St

section
variable {X : Cx} {W : Wd} {a b c e : Expr} {es rest : List Expr} {pos p p2 p3 apos cpos : Pos} {f h : M} {oa ob oc : Op} {os : List Op} {x y : Str} {i j k : Nat} {src : SrcM} {sts sts2 : List Stmt} {st : Stmt} {m m2 : SM} {tgE : Expr} {ps : List Str}
/-- the def x of the top, that promises sp -/
def DefOk (P : Program) (w : World) (K : PySem.W.Frag) (mg : Str → Option Value) (base : Heap) (k : Nat) (x : Str) (st : Stmt) (ps : List Str) (sp : Sp) : Prop :=
  ∃ f fd, mg x = some (.ref f) ∧ L2.Fun K x x st f fd ∧ L2.Binds K fd ps [] ∧ FnOk P w K mg base L2.CX0 k f fd ps sp
theorem DefOk.mono {P : Program} {w : World} {K : PySem.W.Frag} {mg : Str → Option Value} {base : Heap} {sp : Sp} {j k : Nat} (d : DefOk P w K mg base j x st ps sp) (h : j ≤ k) : DefOk P w K mg base k x st ps sp := by
  obtain ⟨f, fd, h1, h2, h3, h4⟩ := d
  exact ⟨f, fd, h1, h2, h3, h4.mono h⟩
theorem spF_app {g : List T → Option Res} {σ : St} {H : Hp} {Q : VK} {E : XK} {t : TA} (hm : ∀ {H : Hp} {Q Q' : List V → Hp → Prop}, t σ H Q → (∀ vs H, Q vs H → Q' vs H) → t σ H Q') (h : t σ H fun vs H1 => spF W g vs H1 Q E) : tCall (spF W g) [] E t σ H Q :=
  hm h fun vs H1 z => by rw [List.append_nil]; exact z
theorem e_call {g : List T → Option Res} (D : DefOk X.prog X.w X.K X.mg X.base k x st ps (spF W g)) (hr : Room k X.A) (ha : EA X W (e :: es) os) (hg : Gl X x := by rfl) (hdb : (x == ("__debug__" : Str)) = false := by decide) (he : starEach (e :: es) X.env = (false, eval e X.env) :: starEach es X.env := by rfl) (hpl : (backTo pos (starEach es X.env)).any (·.1) = false := by rfl) :
    EE X W (.Call (.Name x p) (e :: es) [] pos) (storeM os g) := by
  obtain ⟨f, fd, h1, h2, h3, h4⟩ := D
  refine PE.imp (pe_call h4 hr hg h1 h2.kp h3 .nil L2.pass0 ha hdb he hpl) fun σ H Q q => ?_
  have q' : tOs W os σ H fun vs H1 => spF W g vs H1 Q L2.E0 := store_ok spF_store q
  exact ops_mono q' fun vs H1 z => by rw [List.append_nil]; exact z
/-- a def that changes its first argument's object, an owned local -/
theorem e_callI {g : T → List T → Option (Res × T)} (i : Nat) (D : DefOk X.prog X.w X.K X.mg X.base k x st ps (spI W g)) (hr : Room k X.A) (hv : PE X e (tVar i)) (ha : EA X W es os) (hg : Gl X x := by rfl) (hdb : (x == ("__debug__" : Str)) = false := by decide) (he : starEach (e :: es) X.env = (false, eval e X.env) :: starEach es X.env := by rfl) (hpl : (backTo pos (starEach es X.env)).any (·.1) = false := by rfl) :
    EE X W (.Call (.Name x p) (e :: es) [] pos) (callIM i os g) := by
  obtain ⟨f, fd, h1, h2, h3, h4⟩ := D
  refine PE.imp (pe_call h4 hr hg h1 h2.kp h3 .nil L2.pass0 (pa_cons hv ha he) hdb he hpl) fun σ H Q q => ?_
  have q' : tOs W (.pk i :: os) σ H fun vs H1 => spI W g vs H1 Q L2.E0 := callI_ok q
  exact ops_mono q' fun vs H1 z => by rw [List.append_nil]; exact z
/-- .. a fresh object -/
theorem e_callT {g : T → List T → Option (Res × T)} (D : DefOk X.prog X.w X.K X.mg X.base k x st ps (spI W g)) (hr : Room k X.A) (ha : EA X W (e :: es) os) (hg : Gl X x := by rfl) (hdb : (x == ("__debug__" : Str)) = false := by decide) (he : starEach (e :: es) X.env = (false, eval e X.env) :: starEach es X.env := by rfl) (hpl : (backTo pos (starEach es X.env)).any (·.1) = false := by rfl) :
    EE X W (.Call (.Name x p) (e :: es) [] pos) (callTM os g) := by
  obtain ⟨f, fd, h1, h2, h3, h4⟩ := D
  refine PE.imp (pe_call h4 hr hg h1 h2.kp h3 .nil L2.pass0 ha hdb he hpl) fun σ H Q q => ?_
  have q' : tOs W os σ H fun vs H1 => spI W g vs H1 Q L2.E0 := callT_ok q
  exact ops_mono q' fun vs H1 z => by rw [List.append_nil]; exact z
/-! ### what a def promises, by its body -/
def fnG (n np : Nat) (m : SM) : List T → Option Res := fun ts => if ts.length = np then outR (m (start0 n ts)) else none
def fnI (n np : Nat) (m : SM) : T → List T → Option (Res × T) := fun t ts => if ts.length + 1 = np then outI (m (startI n t ts)) else none
section
variable {P : Program} {w : World} {K : PySem.W.Frag} {mg : Str → Option Value} {base : Heap} {qual : Str} {fa : Addr} {fd : FuncData} {N : List Str}
theorem fn_ok {n np : Nat} {g : List T → Option Res} (F : L2.Fun K x qual st fa fd) (S : FnScope N ps (L2.defScope st)) (hn : N.length = n) (hp : ps.length = np) (hnp : np ≤ n) (hgd : g = fnG n np m)
    (body : ∀ (cdv : Value) (A : Around) (outer : List Env) (s : Shared) (H : Hp) (E : XK), Room k (A.deeper (envOfC qual (L2.defScope st) s.heap.objs.size fa cdv)) → ESs (cxOf L2.CX0 P w K mg base N qual (L2.defScope st) fa cdv A outer s H E).nox W (L2.defBody st) m) :
    FnOk P w K mg base L2.CX0 (k + 1) fa fd ps (spF W g) := by
  subst hn hp hgd
  have hl : ∀ ts r, fnG N.length ps.length m ts = some r → ts.length = ps.length ∧ outR (m (start0 N.length ts)) = some r := fun ts r e => by
    unfold fnG at e
    split at e
    · rename_i h; exact ⟨h, e⟩
    · cases e
  refine F.ok S (fun vs H Q E h => ?_) fun cdv A outer s H vs Q E hr h => ⟨_, body cdv A outer s H E hr, body_ok (fun ts r e => ?_) h⟩
  · obtain ⟨av, ts, r, rl, _, _, e, _⟩ := h
    rw [rl.length]; exact (hl ts r e).1
  · exact ⟨by rw [(hl ts r e).1]; exact hnp, (hl ts r e).2⟩
theorem fn_okI {n np : Nat} {g : T → List T → Option (Res × T)} (F : L2.Fun K x qual st fa fd) (S : FnScope N ps (L2.defScope st)) (hn : N.length = n) (hp : ps.length = np) (hnp : np ≤ n) (hgd : g = fnI n np m)
    (body : ∀ (cdv : Value) (A : Around) (outer : List Env) (s : Shared) (H : Hp) (E : XK), Room k (A.deeper (envOfC qual (L2.defScope st) s.heap.objs.size fa cdv)) → ESs (cxOf L2.CX0 P w K mg base N qual (L2.defScope st) fa cdv A outer s H E).nox W (L2.defBody st) m) :
    FnOk P w K mg base L2.CX0 (k + 1) fa fd ps (spI W g) := by
  subst hn hp hgd
  have hl : ∀ t ts r, fnI N.length ps.length m t ts = some r → ts.length + 1 = ps.length ∧ outI (m (startI N.length t ts)) = some r := fun t ts r e => by
    unfold fnI at e
    split at e
    · rename_i h; exact ⟨h, e⟩
    · cases e
  refine F.ok S (fun vs H Q E h => ?_) fun cdv A outer s H vs Q E hr h => ⟨_, body cdv A outer s H E hr, body_okI (fun t ts r e => ?_) h⟩
  · obtain ⟨av, p, ws, t, ts, r, t', rfl, _, _, rl, _, _, e, _⟩ := h
    rw [List.length_cons, rl.length]; exact (hl t ts _ e).1
  · have := hl t ts r e
    exact ⟨by rw [this.1]; exact hnp, this.2⟩
/-- no parameters are left to defaults -/
def bindB (st : Stmt) (ps : List Str) : Prop := ∀ (x qual : Str) (kV doc pm : Value) (an : Option Addr) (cdv ct : Value) (us : List Value), us.length = ps.length → bindArgs (PySem.W.fnOf x qual (L2.defArgs st) (L2.defBody st) (L2.defScope st) .none kV doc pm an cdv ct) ⟨us, []⟩ = pure (ps.zip us)
theorem def_of {sp : Sp} (F : L2.Fun K x x st fa fd) (hm : mg x = some (.ref fa)) (hb : bindB st ps) (ok : FnOk P w K mg base L2.CX0 k fa fd ps sp) : DefOk P w K mg base k x st ps sp :=
  ⟨fa, fd, hm, F, F.binds fun kV doc pm an cdv ct us hl => hb _ _ kV doc pm an cdv ct us hl, ok⟩
end
/-! ### calls by keywords alone -/
theorem bind_kw {K : PySem.W.Frag} {fa : Addr} {fd : FuncData} {qual : Str} {ks : List Str} {g : List Value → List Value} (F : L2.Fun K x qual st fa fd)
    (h : ∀ (kV doc pm : Value) (an : Option Addr) (cdv ct : Value) (ws : List Value), (g ws).length = ps.length → ws.length = ks.length → bindArgs (PySem.W.fnOf x qual (L2.defArgs st) (L2.defBody st) (L2.defScope st) .none kV doc pm an cdv ct) ⟨[], ks.zip ws⟩ = pure (ps.zip (g ws))) :
    ∀ (s : Shared) (ws : List Value), (g ws).length = ps.length → ws.length = ks.length → BindsTo s fd ⟨[], ks.zip ws⟩ (ps.zip (g ws)) := by
  obtain ⟨oc, od, kV, doc, pm, an, cdv, ct, osl, rfl, lk, hcd⟩ := F.ex
  exact fun s ws h1 h2 => .of_eq (h kV doc pm an cdv ct ws h1 h2)
/-- the keywords' values in the parameters' order -/
def permL {α : Type} (π : List Nat) (l : List α) : List α := π.filterMap fun i => l[i]?
theorem permL_vals {π : List Nat} {vs : List V} {us : List Value} (r : Vals vs us) (hπ : ∀ i ∈ π, i < vs.length) : Vals (permL π vs) (permL π us) := by
  induction π with
  | nil => exact .nil
  | cons i π ih =>
    have hi : i < vs.length := hπ i List.mem_cons_self
    obtain ⟨u, hu, ru⟩ := r.get (List.getElem?_eq_getElem hi)
    have ih := ih fun j hj => hπ j (List.mem_cons_of_mem _ hj)
    unfold permL at ih ⊢
    rw [List.filterMap_cons_some (List.getElem?_eq_getElem hi), List.filterMap_cons_some hu]
    exact .cons ru ih
theorem permL_rpl {W : Wd} {H : Hp} {av : Av} {π : List Nat} {ts : List T} {vs : List V} (r : RpL W H av ts vs) (hπ : ∀ i ∈ π, i < vs.length) : RpL W H av (permL π ts) (permL π vs) := by
  induction π with
  | nil => exact RpL.nil
  | cons i π ih =>
    have hi : i < vs.length := hπ i List.mem_cons_self
    obtain ⟨t, ht, rt⟩ := r.getV (List.getElem?_eq_getElem hi)
    have ih := ih fun j hj => hπ j (List.mem_cons_of_mem _ hj)
    unfold permL at ih ⊢
    rw [List.filterMap_cons_some (List.getElem?_eq_getElem hi), List.filterMap_cons_some ht]
    exact .cons rt ih
def gPerm (π : List Nat) (n : Nat) (g : List T → Option Res) : List T → Option Res := fun ts => if ts.length = n then g (permL π ts) else none
theorem s_perm {π : List Nat} {n : Nat} (hπ : ∀ i ∈ π, i < n) {g : List T → Option Res} {E : XK} : StoreOk W (fun vs H Q => vs.length = n ∧ spF W g (permL π vs) H Q E) (gPerm π n g) := by
  intro av ts vs H Q res r e tb tr q
  unfold gPerm at e
  split at e
  · rename_i h
    have hl : vs.length = n := by rw [r.length]; exact h
    exact ⟨hl, av, _, res, permL_rpl r (by rw [hl]; exact hπ), tr, tb, e, q⟩
  · cases e
theorem e_callK {g : List T → Option Res} {kws : List Keyword} {ks : List Str} (π : List Nat) (D : DefOk X.prog X.w X.K X.mg X.base k x st ps (spF W g)) (hr : Room k X.A) (hkw : PK X kws (tOs W os))
    (hb : ∀ (x qual : Str) (kV doc pm : Value) (an : Option Addr) (cdv ct : Value) (ws : List Value), (permL π ws).length = ps.length → ws.length = ks.length → bindArgs (PySem.W.fnOf x qual (L2.defArgs st) (L2.defBody st) (L2.defScope st) .none kV doc pm an cdv ct) ⟨[], ks.zip ws⟩ = pure (ps.zip (permL π ws)))
    (hπ : ∀ i ∈ π, i < ks.length := by decide) (hall : (backToKw pos (keywordEach kws X.env)).all (·.1.isSome) = true := by rfl) (hks : (backToKw pos (keywordEach kws X.env)).filterMap (·.1) = ks := by rfl)
    (hg : Gl X x := by rfl) (hdb : (x == ("__debug__" : Str)) = false := by decide) (hpl : ((backTo pos (starEach [] X.env)).any (·.1) || (backToKw pos (keywordEach kws X.env)).any (·.1.isNone)) = false := by rfl) :
    EE X W (.Call (.Name x p) [] kws pos) (storeM os (gPerm π ks.length g)) := by
  obtain ⟨f, fd, h1, h2, h3, h4⟩ := D
  refine ⟨fun pins s σ H Q I q => ?_⟩
  have q' : tOs W os σ H fun vs H1 => vs.length = ks.length ∧ spF W g (permL π vs) H1 Q L2.E0 := store_ok (s_perm hπ) q
  refine wpAny_Call_Name_kw (ld_glob I hg h1 ?_ hdb)
  refine PySem.W.callWith_KW0 (h₀ := X.base) I.ok.mod.kin h2.kp hall ?_ hpl
  refine thn (hkw.run pos pins s σ H _ I q') fun ws s2 ⟨zs, H2, I2, rz, hl, q2⟩ => ⟨I2.kIn, ?_⟩
  rw [hks]
  have r2 : Vals (permL π zs) (permL π ws) := permL_vals rz (by rw [hl]; exact hπ)
  have hl2 : (permL π ws).length = ps.length := by rw [← r2.length]; exact h4.len _ _ _ _ q2
  refine wpAny_call (codeAny_mono (h4.run X.A X.stack s2 H2 ⟨[], ks.zip ws⟩ (permL π ws) (permL π zs) Q L2.E0 hr I2.env0 (bind_kw h2 (g := permL π) (fun kV doc pm an cdv ct ws a b => hb _ _ kV doc pm an cdv ct ws a b) s2 ws hl2 (by rw [← rz.length]; exact hl)) r2 q2) fun r s' hq => ?_)
  cases r with
  | error e => exact (show False from hq).elim
  | ok fl =>
    cases fl with
    | ret u => exact I2.after hq
    | next => exact False.elim hq
    | brk => exact False.elim hq
    | cont => exact False.elim hq
theorem k_nil : PK X [] (tOs W []) := pk_nil
theorem k_cons {nm : Option Str} {kpos : Pos} {kws : List Keyword} (ha : EO X W a oa) (hr : PK X kws (tOs W os)) : PK X (⟨nm, a, kpos⟩ :: kws) (tOs W (oa :: os)) := pk_cons ha hr
/-! ### objects -/
def gIsC (c : Nat) : List T → Option Res
  | [.ins c' _ _] => if c' = c then some (.bl true, false) else none
  | _ => none
theorem p_isC {n : Nat} : PrimOk W (fun xs H Q => ∃ a dx fs, xs = [.ref a] ∧ H a = some (.ins (W.ca n) dx fs) ∧ Q (.bl true) H) (gIsC n) := by
  intro av ts vs H Q res rt e tb tr q
  unfold gIsC at e
  split at e
  · split at e
    · rename_i hc
      cases e
      subst hc
      obtain ⟨v, rfl, a, dx, kvs, rfl, s, _⟩ := rt.one
      exact ⟨a, dx, kvs, rfl, s, q _ _ (.bl tb)⟩
    · cases e
  · cases e
theorem e_isC {n : Nat} (ic : C8.InsC X.K (W.ca n)) (hmc : X.mg x = some (.ref (W.ca n))) (hm : X.mg "isinstance" = none) (ha : EO X W e oa) (hgx : Gl X x := by rfl) (hd : (x == ("__debug__" : Str)) = false := by decide) (hg : Gl X "isinstance" := by rfl) (he : starEach [e, .Name x p2] X.env = (false, eval e X.env) :: starEach [.Name x p2] X.env := by rfl) (he2 : starEach [.Name x p2] X.env = (false, eval (.Name x p2) X.env) :: starEach [] X.env := by rfl) (hpl : (backTo pos (starEach [.Name x p2] X.env)).any (·.1) = false := by rfl) :
    EE X W (.Call (.Name "isinstance" p) [e, .Name x p2] [] pos) (primM [oa] (gIsC n)) :=
  PE.imp (pe_callB (C8.call_isC ic) hg hm PyProof.Rows.boot_isinstance (pa_cons ha (pa_cons (pe_glob (v := .ref (W.ca n)) hgx hmc rfl hd) pa_nil he2) he) (by decide) (by decide) he hpl) fun σ H Q q => by
    have h' : tO W oa σ H fun v H1 => ∃ a dx fs, [v] = [V.ref a] ∧ H1 a = some (.ins (W.ca n) dx fs) ∧ Q (.bl true) H1 := prim_ok p_isC q
    refine tO_mono h' fun v H1 ⟨a, dx, fs, e, ha, q⟩ => ?_
    cases e
    exact ⟨a, dx, fs, rfl, ha, q⟩
def gProp (c : Nat) (g : List T → Option Res) : List T → Option Res
  | [.ins c' fs l] => if c' = c then g [.ins c' fs l] else none
  | _ => none
theorem s_prop {n : Nat} {g : List T → Option Res} {E : XK} : StoreOk W (fun vs H Q => ∃ a dx fs, vs = [.ref a] ∧ H a = some (.ins (W.ca n) dx fs) ∧ spF W g [.ref a] H Q E) (gProp n g) := by
  intro av ts vs H Q res r e tb tr q
  unfold gProp at e
  split at e
  · split at e
    · rename_i hc
      subst hc
      have r0 := r
      simp only [RpL] at r
      obtain ⟨y, ys, rfl, r1, rfl⟩ := r
      simp only [Rp] at r1
      obtain ⟨a, dx, kvs, rfl, na, ea, ef, rl⟩ := r1
      exact ⟨a, dx, kvs, rfl, ea, av, _, res, r0, tr, tb, e, q⟩
    · cases e
  · cases e
/-- the getter of a class's property -/
def PropOk (P : Program) (w : World) (K : PySem.W.Frag) (mg : Str → Option Value) (base : Heap) (k : Nat) (C : Addr) (x : Str) (sp : Sp) : Prop :=
  ∃ p g fd ps, Cls K C ∧ PropOf K C x p g ∧ L2.Binds K fd ps [] ∧ FnOk P w K mg base L2.CX0 k g fd ps sp
theorem e_prop {n : Nat} {g : List T → Option Res} (D : PropOk X.prog X.w X.K X.mg X.base k (W.ca n) x (spF W g)) (hr : Room (k + 1) X.A) (ha : EO X W a oa) (hab : attributeBase a x X.env (eval a X.env) = eval a X.env := by rfl) : EE X W (.Attribute a x pos) (storeM [oa] (gProp n g)) := by
  obtain ⟨p, fg, fd, ps, hc, hp, hb, F⟩ := D
  refine PE.imp (pe_prop ha hc hp F hr hb .nil L2.pass0 hab) fun σ H Q q => ?_
  have q' : tO W oa σ H fun v H1 => ∃ a dx fs, [v] = [V.ref a] ∧ H1 a = some (.ins (W.ca n) dx fs) ∧ spF W g [.ref a] H1 Q L2.E0 := store_ok s_prop q
  refine tO_mono q' fun v H1 ⟨a, dx, fs, e, ha, q⟩ => ?_
  cases e
  exact ⟨a, dx, fs, rfl, ha, q⟩
/-- C(..) -/
def gMake (c : Nat) (g : T → List T → Option (Res × T)) : List T → Option Res := fun ts => match g (.ins c [] []) ts with
  | some ((.non, false), t') => some (t', true)
  | _ => none
theorem s_make {n : Nat} {g : T → List T → Option (Res × T)} {E : XK} : StoreOk W (fun vs H Q => ∀ x dx, H x = none → H dx = none → dx ≠ x → spI W g (.ref x :: vs) (upd (upd H dx (.own x)) x (.ins (W.ca n) dx [])) (fun v H2 => v = .non ∧ Q (.ref x) H2) E) (gMake n g) := by
  intro av ts vs H Q res r e tb tr q
  unfold gMake at e
  split at e
  · rename_i t' hg
    cases e
    intro x dx nx nd ne
    have k1 : ExtN H (upd (upd H dx (.own x)) x (.ins (W.ca n) dx [])) := fun b o eb nt => by
      rw [upd_ne (ne_of_none eb nx), upd_ne (ne_of_none eb nd)]; exact eb
    have tb1 : NdefX.TabsN W.tb (upd (upd H dx (.own x)) x (.ins (W.ca n) dx [])) := tb.ext fun b o eb => by
      rw [upd_ne (ne_of_none eb nx), upd_ne (ne_of_none eb nd)]; exact eb
    have nav : ¬ av x := fun z => tr x z (.of nx)
    refine ⟨av, x, vs, T.ins n [] [], ts, _, t', rfl, nav, ⟨dx, [], upd_same, rfl, RpL.nil⟩, (r.avoid (av' := Cadd av x) (fun a z => z.elim .inl fun z => .inr (z ▸ .of nx)) _ _).ext k1, fun a z => Nw.ext k1 (tr a z), tb1, hg, fun v H2 ip => ?_⟩
    obtain ⟨rv, cv⟩ := ip.fr rfl
    simp only [Rp] at rv
    refine ⟨rv, q _ _ ⟨fun b o eb nt => ip.keep b o (ne_of_none eb nx) (k1 b o eb nt) nt, ip.tabs, (fun z => nomatch z), fun _ => ⟨x, rfl, .of nx, cv⟩⟩⟩
  · cases e
/-- a class of the top that is made -/
def MakeOk (P : Program) (w : World) (K : PySem.W.Frag) (mg : Str → Option Value) (base : Heap) (k : Nat) (C : Addr) (x : Str) (sp : Sp) : Prop :=
  ∃ fi fd ps, mg x = some (.ref C) ∧ Mk K C fi ∧ L2.Binds K fd ps [] ∧ FnOk P w K mg base L2.CX0 k fi fd ps sp
theorem e_make {n : Nat} {g : T → List T → Option (Res × T)} (D : MakeOk X.prog X.w X.K X.mg X.base k (W.ca n) x (spI W g)) (hr : Room (k + 1) X.A) (ha : EA X W (e :: es) os) (hg : Gl X x := by rfl) (hdb : (x == ("__debug__" : Str)) = false := by decide) (he : starEach (e :: es) X.env = (false, eval e X.env) :: starEach es X.env := by rfl) (hpl : (backTo pos (starEach es X.env)).any (·.1) = false := by rfl) :
    EE X W (.Call (.Name x p) (e :: es) [] pos) (storeM os (gMake n g)) := by
  obtain ⟨fi, fd, ps, hm, M, hb, F⟩ := D
  refine PE.imp (pe_make M F hr hg hm hb .nil L2.pass0 ha hdb he hpl) fun σ H Q q => ?_
  have q' : tOs W os σ H fun vs H1 => ∀ x dx, H1 x = none → H1 dx = none → dx ≠ x → spI W g (.ref x :: vs) (upd (upd H1 dx (.own x)) x (.ins (W.ca n) dx [])) (fun v H2 => v = .non ∧ Q (.ref x) H2) L2.E0 := store_ok s_make q
  exact ops_mono q' fun vs H1 z x dx h1 h2 h3 => by rw [List.append_nil]; exact z x dx h1 h2 h3
/-- self.f = e -/
def putFT (f : Str) (t : T) : List Str → List T → List Str × List T
  | g :: gs, u :: us => if g = f then (g :: gs, t :: us) else (g :: (putFT f t gs us).1, u :: (putFT f t gs us).2)
  | _, _ => ([f], [t])
theorem putFT_ok {H : Hp} {av : Av} {f : Str} {t : T} {v : V} (r : Rp W H av t v) : ∀ {kvs : List (Str × V)} {l : List T}, RpL W H av l (kvs.map (·.2)) → (putF f v kvs).map (·.1) = (putFT f t (kvs.map (·.1)) l).1 ∧ RpL W H av (putFT f t (kvs.map (·.1)) l).2 ((putF f v kvs).map (·.2))
  | [], l, rl => by
    have : l = [] := by
      cases l with
      | nil => rfl
      | cons a l => simp only [RpL, List.map_nil] at rl; obtain ⟨y, ys, e, _⟩ := rl; cases e
    subst this
    exact ⟨rfl, .one r⟩
  | (g, x) :: kvs, l, rl => by
    cases l with
    | nil => simp only [RpL] at rl; cases rl
    | cons u l =>
      have rl' : ∃ y ys, x :: kvs.map (·.2) = y :: ys ∧ Rp W H av u y ∧ RpL W H av l ys := by simpa only [RpL, List.map_cons] using rl
      obtain ⟨y, ys, e, r1, r2⟩ := rl'
      cases e
      simp only [putF, putFT, List.map_cons]
      split
      · exact ⟨rfl, .cons r r2⟩
      · obtain ⟨h1, h2⟩ := putFT_ok (f := f) r r2
        exact ⟨by rw [List.map_cons, h1], .cons r1 h2⟩
def gSetA (c : Nat) (f : Str) : T → List Res → Option (T × T)
  | .ins c' fs l, [r] => if c' = c ∧ fs.length < 1000 then some (.ins c' (putFT f r.1 fs l).1 (putFT f r.1 fs l).2, .non) else none
  | _, _ => none
theorem mu_setA {n : Nat} {f : Str} (hc : Cls W.K (W.ca n)) (hn : NoAttr W.K (W.ca n) f) : MutOk W (fun o vs H Q => ∃ y a C dx fs, vs = [y] ∧ o = .ref a ∧ H a = some (.ins C dx fs) ∧ Cls W.K C ∧ NoAttr W.K C f ∧ fs.length < 1000 ∧ Q .non (upd H a (.ins C dx (putF f y fs)))) (gSetA n f) := by
  intro av p t ts vs H Q t' res hp c o e q
  unfold gSetA at e
  split at e
  · split at e
    · rename_i h
      cases e
      obtain ⟨rfl, hl⟩ := h
      obtain ⟨dx, kvs, ek, rfl, rl⟩ := c
      obtain ⟨y, rfl, oy⟩ := o.one
      obtain ⟨h1, h2⟩ := putFT_ok (f := f) oy.rp rl
      exact ⟨y, p, _, dx, kvs, rfl, rfl, ek, hc, hn, by rw [List.length_map] at hl; exact hl, q .non _ rfl ⟨dx, _, upd_same, h1, h2.upd hp⟩ (by simp only [Rp])⟩
    · cases e
  · cases e
theorem s_setA {n : Nat} {fl : Str} (i : Nat) (hc : Cls W.K (W.ca n)) (hn : NoAttr W.K (W.ca n) fl) (ho : PE X a (tVar i)) (hv : EO X W e oa) (hs : swapsWith e (some (.Attribute a fl p)) pos.line X.env = pure false := by rfl) (hK : X.K = W.K := by rfl) : ES X W (.Assign [.Attribute a fl p] e pos) (dropM (mutM i [oa] (gSetA n fl))) :=
  PS.imp (ps_fld ho hv hs) fun D σ H q => by rw [hK]; exact setAttr_ok (mu_setA hc hn) q
/-- reading a field of an instance -/
def gFld (c : Nat) (f : Str) : List T → Option Res
  | [.ins c' fs l] => if c' = c then ((fs.zip l).lookup f).map (·, false) else none
  | _ => none
theorem fld_at {H : Hp} {av : Av} {f : Str} {t : T} : ∀ {kvs : List (Str × V)} {l : List T}, RpL W H av l (kvs.map (·.2)) → ((kvs.map (·.1)).zip l).lookup f = some t → ∃ v, kvs.lookup f = some v ∧ Rp W H av t v
  | [], l, rl, e => by simp at e
  | (g, x) :: kvs, [], rl, e => by simp at e
  | (g, x) :: kvs, u :: l, rl, e => by
    have rl' : ∃ y ys, x :: kvs.map (·.2) = y :: ys ∧ Rp W H av u y ∧ RpL W H av l ys := by simpa only [RpL, List.map_cons] using rl
    obtain ⟨y, ys, ee, r1, r2⟩ := rl'
    cases ee
    simp only [List.map_cons, List.zip_cons_cons, List.lookup_cons] at e ⊢
    cases hb : f == g with
    | true => rw [hb] at e; cases e; exact ⟨x, rfl, r1⟩
    | false => rw [hb] at e; exact fld_at r2 e
theorem p_fld {n : Nat} {f : Str} : PrimOk W (fun vs H Q => ∃ x a C dx fs v, vs = [x] ∧ x = .ref a ∧ C = W.ca n ∧ H a = some (.ins C dx fs) ∧ fs.lookup f = some v ∧ Q v H) (gFld n f) := by
  intro av ts vs H Q res rt e tb tr q
  unfold gFld at e
  split at e
  · split at e
    · rename_i hc
      subst hc
      obtain ⟨t, et, rfl⟩ := Option.map_eq_some_iff.mp e
      obtain ⟨v, rfl, a, dx, kvs, rfl, s, rfl, rl⟩ := rt.one
      obtain ⟨z, ez, rz⟩ := fld_at rl et
      exact ⟨_, a, _, dx, kvs, z, rfl, rfl, rfl, s, ez, q _ _ (.same tb rz)⟩
    · cases e
  · cases e
theorem e_fld {n : Nat} {fl : Str} (hc : Cls X.K (W.ca n)) (hn : NoAttr X.K (W.ca n) fl) (ha : EO X W a oa) (hab : attributeBase a fl X.env (eval a X.env) = eval a X.env := by rfl) : EE X W (.Attribute a fl pos) (primM [oa] (gFld n fl)) :=
  PE.imp (pe_fld ha hab) fun σ H Q q => by
    have h' : tO W oa σ H fun v H1 => ∃ x a C dx fs w, [v] = [x] ∧ x = .ref a ∧ C = W.ca n ∧ H1 a = some (.ins C dx fs) ∧ fs.lookup fl = some w ∧ Q w H1 := prim_ok p_fld q
    refine tO_mono h' fun v H1 ⟨x, a, C, dx, fs, w, e, e2, eC, ha, el, q⟩ => ?_
    cases e
    subst e2 eC
    exact ⟨a, _, dx, fs, w, rfl, ha, hc, hn, el, q⟩
end
end Rv
end

section
set_option Elab.async false
set_option autoImplicit false
set_option linter.all false
set_option maxRecDepth 100000
set_option maxHeartbeats 1000000
/-! Rv18: t.index(x), s.split(x), len(set(ns)). -/
namespace Rv
open PySem PySem.Spec L2
open PyProof.Rows hiding St

section
variable {X : Cx} {W : Wd} {a b c e : Expr} {es rest : List Expr} {pos p p2 p3 q2 apos cpos : Pos} {f h : M} {oa ob oc : Op} {os : List Op} {x y : Str} {i j k : Nat}
theorem tupD_ty {pins : List (Addr × Obj)} {σ : St} {H : Hp} {s : Shared} {a : Addr} {xs : List V} (I : Inv X pins σ H s) (h : TupD X.K H a xs) : s.TypeIs (.ref a) "tuple" ∧ ∀ b, Value.ref a = .ref b → ∃ ob, s.heap.get? b = some ob ∧ ob.dict = none := by
  rcases h with ⟨o, hd, h⟩ | ⟨o, its, n, h1, h2, hd, h3, h4, h5⟩
  · obtain ⟨ho, _, _, _, o', h1, h2, _⟩ := (show ObjOk X.prog X.w H s.heap a (.frz o (.tup xs)) from I.hok a _ h)
    refine ⟨⟨o', h1, h2⟩, fun b e => ?_⟩
    cases e
    exact ⟨o, ho, hd⟩
  · refine ⟨⟨o, I.kIn a o h1, h2⟩, fun b e => ?_⟩
    cases e
    exact ⟨o, I.kIn _ o h1, hd⟩
/-- a method of a tuple whose own object is known -/
def tTM (K : PySem.W.Frag) (r : V → List V → Hp → VK → Prop) (to : TE) (t : TA) : TE := fun σ H Q => to σ H fun x H1 => (∃ a xs, x = .ref a ∧ TupD K H1 a xs) ∧ t σ H1 fun xs H2 => r x xs H2 Q
theorem pe_tm {name : Str} {id : String} {r : V → List V → Hp → VK → Prop} {to : TE} {t : TA} (slot : Slot "tuple" name id) (hty : typeOf (.builtin id) = pure (.type "method_descriptor")) (hm : MtR X id r) (ho : PE X a to) (ha : PA X (e :: es) t)
    (hbase : attributeBase a name X.env (eval a X.env) = eval a X.env)
    (hfew : ((backTo cpos (starEach (e :: es) X.env)).all (fun x => !x.1) && (backToKw cpos (keywordEach [] X.env)).all (fun x => x.1.isSome)
      && decide ((e :: es).length + ([] : List Keyword).length + (if ([] : List Keyword).isEmpty then 0 else 1) < 30)) = true)
    (hline : (apos.endLine == cpos.line) = true) (hs : starEach (e :: es) X.env = (false, eval e X.env) :: starEach es X.env) (hplain : (backTo cpos (starEach es X.env)).any (·.1) = false) :
    PE X (.Call (.Attribute a name apos) (e :: es) [] cpos) (tTM X.K r to t) := by
  refine ⟨fun pins s σ H Q I h => ?_⟩
  refine wpAny_Call_method_late hbase hfew hline rfl (thn (ho.run pins s σ H _ I h) fun v s1 ⟨x, H1, I1, r1, ty, q1⟩ => ?_)
  obtain ⟨b, xs, rfl, ty⟩ := ty
  cases r1
  obtain ⟨h1, h2⟩ := tupD_ty I1 ty
  refine ⟨"tuple", id, PySem.F.plainAttrs_tuple, slot, hty, h1, h2, ?_⟩
  have hA := ha.run cpos pins s1 σ H1 _ I1 q1
  rw [hs] at hA ⊢
  refine Calls.callWith_builtin (by show (false || (backTo cpos (starEach es X.env)).any (·.1)) = false; rw [hplain] <;> rfl) (Calls.evalArgs_plain ?_)
  exact thn hA fun us s2 ⟨vs, H2, I2, r2, q2⟩ => hm pins s2 σ H2 (.ref b) vs (.ref b) us Q I2 rfl r2 q2
def indexM (f : M) (o : Op) : M := fun ρ => match f ρ with
  | some ((.tup true l, false), ρ1) => (match opsM [o] ρ1 with
    | some (rs, ρ2) => (match resolves ρ2 rs with
      | some [t] => (gIndex [.tup true l, t]).map fun r => (r, ρ2)
      | _ => none)
    | none => none)
  | _ => none
theorem pdL_len : ∀ l : List T, (pdL l).length = l.length
  | [] => rfl
  | x :: l => by simp [pdL, pdL_len l]
theorem pdL_get : ∀ (l : List T) (m : Nat), (pdL l)[m]? = l[m]?.map pd
  | [], m => by simp [pdL]
  | x :: l, 0 => by simp [pdL]
  | x :: l, m + 1 => by simpa [pdL] using pdL_get l m
theorem index_ok {σ : St} {H : Hp} {Q : VK} (h : tOf W (indexM f oa) σ H Q) : tTM W.K (rIdxD W.K) (tOf W f) (tOs W [oa]) σ H Q := by
  obtain ⟨P, C, Z, A, ρ, rr, ρ', S, e, q⟩ := h
  unfold indexM at e
  split at e
  · rename_i l ρ1 hf
    split at e
    · rename_i rs ρ2 ho
      split at e
      · rename_i t hr
        obtain ⟨r, hg, e⟩ := Option.map_eq_some_iff.mp e
        · cases e
          refine ⟨P, C, Z, A, ρ, _, ρ1, S, hf, fun v H1 C1 A1 m1 o1 => ?_⟩
          have o' : Rp W H1 (av C1 A1) (T.tup true l) v := o1
          simp only [Rp] at o'
          obtain ⟨a, xs, rfl, s, rl⟩ := o'
          have td : ∀ H2, (∀ b o, Pf H1 A1 b = some o → H2 b = some o) → TupD W.K H2 a xs := fun H2 k => by
            rcases s with ⟨n, ⟨qq, s⟩ | ⟨qq, o, d, s⟩⟩ | s
            · cases qq
            · exact .inl ⟨o, d, k _ _ (Pf_some s rfl fun i z => n (.inr ⟨i, z⟩))⟩
            · exact .inr s
          refine ⟨⟨a, xs, rfl, td H1 fun b o z => (of_Pf z).1⟩, ?_⟩
          refine ops_ok m1.sr.pf ho fun vs H2 C2 A2 m2 o2 => ?_
          have m := m1.trans S m2
          have rl2 : RpL W H2 (av C2 A2) l xs := rl.stay m1.sr m2
          obtain ⟨y, rfl, ry⟩ := (o2.rt m2.sr hr).one
          have hg : (if dOkL 11 l = true ∧ dOk 12 t = true then (idxOf l t).map fun j => ((T.int (j : Nat), false) : Res) else none) = some rr := hg
          · split at hg
            · rename_i hd
              obtain ⟨jj, hj, rfl⟩ := Option.map_eq_some_iff.mp hg
              obtain ⟨⟨u, hu, hux⟩, hno⟩ := idxOf_spec hj
              obtain ⟨dd, dc, _⟩ := pdL_dp 11 l xs hd.1 rl2
              obtain ⟨d1, c1, q1⟩ := rt_dp hd.2 ry
              have hdk : ∀ t ∈ l, dOk 11 t = true := dOkL_mem hd.1
              refine ⟨a, xs, y, _, _, jj, pd u, rfl, rfl, td H2 m2.sr.keep, dd, dc, d1, shaped_of (by decide) c1 q1, by rw [pdL_get, hu]; rfl, by rw [pd_eq 11 12 u t (hdk u (List.mem_of_getElem? hu)) hd.2]; exact hux, fun mm w hm hw => ?_, ?_⟩
              · rw [pdL_get] at hw
                obtain ⟨z, hz, rfl⟩ := Option.map_eq_some_iff.mp hw
                rw [pd_eq 11 12 z t (hdk z (List.mem_of_getElem? hz)) hd.2]
                exact hno mm hm z hz
              · refine q _ H2 C2 A2 m ?_
                show Rp W H2 (av C2 A2) (.int _) _
                simp only [Rp]
            · cases hg
      · cases e
    · cases e
  · cases e
theorem e_index (hr : Room k X.A) (ha : EE X W a f) (hb : EO X W b oa) (hK : X.K = W.K := by rfl) (hbase : attributeBase a "index" X.env (eval a X.env) = eval a X.env := by rfl)
    (hfew : ((backTo cpos (starEach [b] X.env)).all (fun x => !x.1) && (backToKw cpos (keywordEach [] X.env)).all (fun x => x.1.isSome)
      && decide (([b] : List Expr).length + ([] : List Keyword).length + (if ([] : List Keyword).isEmpty then 0 else 1) < 30)) = true := by rfl)
    (hline : (apos.endLine == cpos.line) = true := by rfl) (hs : starEach [b] X.env = (false, eval b X.env) :: starEach [] X.env := by rfl) (hplain : (backTo cpos (starEach [] X.env)).any (·.1) = false := by rfl) :
    EE X W (.Call (.Attribute a "index" apos) [b] [] cpos) (indexM f oa) :=
  PE.imp (pe_tm PySem.F.slot_tuple_index PySem.F.type_tuple_index (mt_idxD (u65 hr)) ha (pa_cons hb pa_nil hs) hbase hfew hline hs hplain) fun σ H Q q => by rw [hK]; exact index_ok q
/-! ### s.split(x) of written texts -/
def splitM (z y : Str) : M := fun ρ => if (Txt.split z y).all sOk = true ∧ (y.length == 0) = false ∧ z.length ≤ 1000 then some ((.lst ((Txt.split z y).map T.str), true), ρ) else none
def splitVM (i : Nat) (y : Str) : M := fun ρ => match rget ρ i with
  | some (.str z, _) => splitM z y ρ
  | _ => none
theorem e_split (i : Nat) (hv : PE X a (tVar i)) (hb : PE X b (tC (.str y)))
    (hK : X.K = W.K := by rfl) (hbase : attributeBase a "split" X.env (eval a X.env) = eval a X.env := by rfl)
    (hfew : ((backTo cpos (starEach [b] X.env)).all (fun x => !x.1) && (backToKw cpos (keywordEach [] X.env)).all (fun x => x.1.isSome) && decide (([b] : List Expr).length + ([] : List Keyword).length + (if ([] : List Keyword).isEmpty then 0 else 1) < 30)) = true := by rfl)
    (hline : (apos.endLine == cpos.line) = true := by rfl) (hs : starEach [b] X.env = (false, eval b X.env) :: starEach [] X.env := by rfl) (hplain : (backTo cpos (starEach [] X.env)).any (·.1) = false := by rfl) :
    EE X W (.Call (.Attribute a "split" apos) [b] [] cpos) (splitVM i y) :=
  PE.imp (pe_bm PySem.F.plainAttrs_str PySem.F.slot_str_split PySem.F.type_str_split mt_split hv (pa_cons hb pa_nil hs) hbase hfew hline hs hplain) fun σ H Q q => by
    obtain ⟨P, C, Z, A, ρ, rr, ρ', S, e, q⟩ := q
    unfold splitVM at e
    split at e
    · rename_i z o hr
      unfold splitM at e
      split at e
      · rename_i hz
        cases e
        obtain ⟨v, ev, rv⟩ := S.read hr
        obtain ⟨rfl, ok⟩ := rt_str rv
        refine ⟨_, ev, rfl, z, y, rfl, rfl, hz.2.1, ?_, fun p hp => ?_⟩
        · have := hz.2.2
          rw [sizeLine_eq]; omega
        · obtain ⟨C2, A2, m2, o2⟩ := (Mv.refl S).post (RPost.lst S.tabs hp (rpl_strs hz.1))
          exact q _ _ C2 A2 m2 o2
      · cases e
    · cases e
theorem c_str {z : Str} {u : Nat} : PE X (.Constant (.str z) u pos) (tC (.str z)) := pe_str
/-! ### len(set(ns)), all of them unlike -/
def intsOf : List T → Option (List Int)
  | [] => some []
  | .int i :: l => (intsOf l).map (i :: ·)
  | _ :: _ => none
theorem rpl_int {H : Hp} {av : Av} : ∀ {l : List T} {ns : List Int} {xs : List V}, intsOf l = some ns → RpL W H av l xs → xs = ns.map V.int
  | [], ns, xs, e, r => by
    cases e
    have : xs = [] := by simpa only [RpL] using r
    exact this
  | t :: l, ns, xs, e, r => by
    cases t with
    | int i =>
      obtain ⟨cs, ec, rfl⟩ := Option.map_eq_some_iff.mp e
      have r' : ∃ y ys, xs = y :: ys ∧ Rp W H av (.int i) y ∧ RpL W H av l ys := by simpa only [RpL] using r
      obtain ⟨y, ys, rfl, r1, r2⟩ := r'
      have : y = .int i := by simpa only [Rp] using r1
      rw [this, rpl_int ec r2]; rfl
    | _ => cases e
def gLenSet : List T → Option Res
  | [.lst l] => (match intsOf l with
    | some ns => if ns.Nodup ∧ ns.length ≤ 4000 then some (.int (ns.length : Nat), false) else none
    | none => none)
  | _ => none
theorem p_lenSet : PrimOk W (fun vs H Q => ∃ x, vs = [x] ∧ ∃ (l : Addr) (ns : List Int), x = .ref l ∧ SqL W.K H l (ns.map V.int) ∧ ns.Nodup ∧ ns.length ≤ 4000 ∧ Q (.int (ns.length : Nat)) H) gLenSet := by
  intro av ts vs H Q res rt e tb tr q
  unfold gLenSet at e
  split at e
  · split at e
    · rename_i l ns hn
      split at e
      · rename_i h
        cases e
        obtain ⟨v, rfl, a, xs, rfl, s, r⟩ := rt.one
        exact ⟨_, rfl, a, ns, rfl, .inl (.inl (by rw [← rpl_int hn r]; exact s)), h.1, h.2, q _ _ (.int tb)⟩
      · cases e
    · cases e
  · cases e
theorem e_lenSet (hm : X.mg "len" = none) (hm2 : X.mg "set" = none) (ha : EO X W a oa) (hc : X.calm = true := by rfl) (hg : Gl X "len" := by rfl) (hg2 : Gl X "set" := by rfl) (na : starEach [a] X.env = (false, eval a X.env) :: starEach [] X.env := by rfl) (hK : X.K = W.K := by rfl) :
    EE X W (.Call (.Name "len" p) [.Call (.Name "set" p2) [a] [] q2] [] pos) (primM [oa] gLenSet) :=
  PE.imp (RZ.pe_lenSetI hg hm hg2 hm2 ha hc na) fun σ H Q q => by
    have h' : tO W oa σ H fun v H1 => ∃ x, [v] = [x] ∧ ∃ (l : Addr) (ns : List Int), x = .ref l ∧ SqL W.K H1 l (ns.map V.int) ∧ ns.Nodup ∧ ns.length ≤ 4000 ∧ Q (.int (ns.length : Nat)) H1 := prim_ok p_lenSet q
    refine tO_mono h' fun v H1 ⟨x, e, l, ns, h1, h2, h3, h4, q⟩ => ?_
    cases e
    rw [hK]
    exact ⟨l, ns, h1, h2, h3, h4, q⟩
end
end Rv
end

section
set_option Elab.async false
set_option autoImplicit false
set_option linter.all false
set_option maxRecDepth 100000
set_option maxHeartbeats 1000000
/-! Rv19: lambdas that are handed to a def. -/
namespace Rv
open PySem PySem.Spec L2 LamX NdefX
open PyProof.Rows hiding St

/-! ### an expression as a function of what its names hold -/
def fnE (n np : Nat) (m : M) : List T → Option Res := fun ts => if ts.length = np then (match m (start0 n ts) with
  | some ((t, false), _) => some (t, false)
  | _ => none) else none
theorem expr_ok {W : Wd} {N : List Str} {np : Nat} {m : M} {vs : List V} {H : Hp} {Q : VK} {E : XK} (hnp : np ≤ N.length) (h : spF W (fnE N.length np m) vs H Q E) : tOf W m (L2.start N vs) H Q := by
  obtain ⟨av0, ts, r, rl, tr, tb, e, q⟩ := h
  unfold fnE at e
  split at e
  · rename_i hl
    split at e
    · rename_i t ρ' hm
      cases e
      have S := sr_start (by rw [hl]; exact hnp) rl tr tb
      refine ⟨_, _, _, _, _, (t, false), ρ', S, hm, fun v H' C' A' mv o => q v H' ⟨fun a u ea n => mv.sr.keep a u (Pf_some ea n fun i z => nomatch z), mv.sr.tabs, fun _ => ?_, fun z => nomatch z⟩⟩
      have o' : Rp W H' (av C' A') t v := o
      exact o'.sub fun a z => .inl (mv.up a z)
    · cases e
  · cases e
/-- the lambda's words -/
structure Lm where
  q : Str
  params : Arguments
  body : Expr
  scope : Scope
  fr : List Str
  ps : List Str
  N : List Str
def Lm.nf (L : Lm) (cl : List (Str × Addr)) (c : Addr) : NF := ⟨"<lambda>", L.q, L.params, [], L.scope, cl, c⟩
/-- the lambda's object as it stands where a def begins -/
structure LamAt (L : Lm) (stack : List Env) (s : Shared) (H : Hp) (f c : Addr) (cl : List (Str × Addr)) (ws : List V) : Prop where
  ob : ∃ pm ctv, s.heap.get? f = some (PySem.W.kla_obj "<lambda>" L.q L.params L.body L.scope cl pm c ctv)
  nf : H f = none
  nfr : f ∉ frs stack
  cells : CellsAt cl L.fr (ws.map some) s.heap H
section
variable {Z : Cx} {W : Wd} {L : Lm} {pins : List (Addr × Obj)} {σ : L2.St} {H : Hp} {s : Shared} {f c : Addr} {cl : List (Str × Addr)} {ws : List V}
theorem cells_later (C : CellsAt cl L.fr (ws.map some) Z.s_0.heap Z.H_0) (hx : Z.ex = []) (I : Inv Z pins σ H s) : CellsAt cl L.fr (ws.map some) s.heap H := by
  have kp : ∀ y c, cl.lookup y = some c → ∀ v, Z.s_0.heap.IsCell c v → s.heap.IsCell c v := fun y c e v ⟨o, ho, hd⟩ => by
    obtain ⟨sl, q⟩ := I.base.any ho (C.all y c e).1 (by rw [hx]; simp)
    exact ⟨_, q, hd⟩
  refine ⟨C.len, fun y c e => ?_, C.inj, fun i y e => ?_⟩
  · obtain ⟨n, v, z⟩ := C.all y c e
    refine ⟨?_, v, kp y c e v z⟩
    obtain ⟨o, ho, _⟩ := z
    exact I.base.free c o ho n (by rw [hx]; simp)
  · obtain ⟨c, hc, hv⟩ := C.has i y e
    refine ⟨c, hc, fun v ev => ?_⟩
    obtain ⟨u, r, z⟩ := hv v ev
    exact ⟨u, r, kp y c hc _ z⟩
/-- the lambda runs -/
theorem lam_run {k : Nat} {g : List T → Option Res} {m : M} {np : Nat} {us : List Value} {vs : List V} {Q : VK} (S : NScope L.N L.ps L.fr L.scope) (hb : ∀ (cl : List (Str × Addr)) (pm cv ctv : Value) (us : List Value), us.length = L.ps.length → bindArgs (PySem.W.kla_fn "<lambda>" L.q L.params L.body L.scope cl pm cv ctv) ⟨us, []⟩ = pure (L.ps.zip us))
    (hnp : np ≤ L.N.length) (hgd : g = fnE L.N.length np m) (hbody : ∀ (A : Around) (outer : List Env) (s : Shared) (H : Hp), Room k (A.deeper (envF (L.nf cl c) f s.heap.objs.size)) → EE (ncx L2.CX0 Z.prog Z.w Z.K Z.mg Z.base L.N (L.nf cl c) f A outer s H L2.E0) W L.body m)
    (hr : Room (k + 1) Z.A) (I : Inv Z pins σ H s) (hx : Z.ex = []) (la : LamAt L Z.outer Z.s_0 Z.H_0 f c cl ws) (hc : H c = some (CodeO c L.q)) (r : Vals vs us) (hl : vs.length = L.ps.length) (sp : spF W g (vs ++ ws) H Q L2.E0) :
    wpAny (model Z.prog Z.w) Z.A (call (.ref f) us) (EP Z pins σ Q) Z.xe s := by
  subst hgd
  obtain ⟨pm, ctv, hob⟩ := la.ob
  have hf : s.heap.get? f = some (PySem.W.kla_obj "<lambda>" L.q L.params L.body L.scope cl pm c ctv) := I.base.keep f _ hob la.nf la.nfr (by rw [hx]; simp)
  have C := cells_later la.cells hx I
  have e0 := I.env0
  have lim : s.heap.NoLimit := e0.mod.nolimit.keeps fun b o e => (e0.bs b o e).1
  obtain ⟨⟨oc, vs0, t, hoc, hdc, hvc⟩, _, _⟩ := I.hok c _ hc
  have rc : codeAny (model Z.prog Z.w) Z.A (.call (.ref f) ⟨us, []⟩) (CR L2.CX0 Z.stack Z.prog Z.w H s Q L2.E0) s := by
    refine PySem.W.kla_callFunE hr.depth hf rfl S.co S.gen rfl ⟨c, oc, vs0, t, rfl, hoc, hdc, hvc⟩ ?_
    rw [hb cl pm (.ref c) ctv us (by rw [← r.length]; exact hl)]
    refine wpAny_pure (wpAny_newFunctionEnv S.nocell (fun ⟨n, _⟩ hy => S.par n (List.of_mem_zip hy).1) (fun h₁ hns hsb => ⟨lim.fresh _ hsb, ?_⟩) S.kind)
    show codeAny _ _ (.expr L.body (envF (L.nf cl c) f s.heap.objs.size)) _ _
    have kp : ∀ b o, s.heap.get? b = some o → h₁.get? b = some o := fun b o e => hsb.extBut b o (Nat.ne_of_lt (Heap.lt_size e)) (Heap.get?_push_of_some _ e)
    have J : Inv (ncx L2.CX0 Z.prog Z.w Z.K Z.mg Z.base L.N (L.nf cl c) f Z.A Z.stack s H L2.E0) [] (startF L.N vs (ws.map some)) H { s with heap := h₁, toks := s.toks + (L.ps.zip us).length } := inv_startN (F := L.nf cl c) S hr.hd e0 hl r C hns kp
    have es : startF L.N vs (ws.map some) = L2.start L.N (vs ++ ws) := by
      unfold startF L2.start
      rw [List.map_append, List.append_assoc, List.length_append, List.length_map, Nat.sub_sub]
    rw [es] at J
    refine PySem.W.kla_codeExpr (wpAny_mono ((hbody Z.A Z.stack s H (hr.deeper _)).run [] _ _ H Q J (expr_ok hnp sp)) (fun v s' hq => ?_) fun e s' hq => hq)
    obtain ⟨w', H', J', rv, q⟩ := hq
    exact ⟨w', H', J'.os, J'.bare, J'.base, J'.hok, rv, q⟩
  refine wpAny_call (codeAny_mono rc fun r s' hq => ?_)
  cases r with
  | error e => exact (show False from hq).elim
  | ok fl =>
    cases fl with
    | ret u => exact I.after hq
    | next => exact False.elim hq
    | brk => exact False.elim hq
    | cont => exact False.elim hq
/-- is_right(..), where the lambda was given -/
theorem pe_lam {k i : Nat} {g : List T → Option Res} {m : M} {np : Nat} {x : Str} {e : Expr} {es : List Expr} {t : TA} {p pos : Pos} (S : NScope L.N L.ps L.fr L.scope) (hb : ∀ (cl : List (Str × Addr)) (pm cv ctv : Value) (us : List Value), us.length = L.ps.length → bindArgs (PySem.W.kla_fn "<lambda>" L.q L.params L.body L.scope cl pm cv ctv) ⟨us, []⟩ = pure (L.ps.zip us))
    (hnp : np ≤ L.N.length) (hgd : g = fnE L.N.length np m) (hbody : ∀ (A : Around) (outer : List Env) (s : Shared) (H : Hp), Room k (A.deeper (envF (L.nf cl c) f s.heap.objs.size)) → EE (ncx L2.CX0 Z.prog Z.w Z.K Z.mg Z.base L.N (L.nf cl c) f A outer s H L2.E0) W L.body m)
    (hr : Room (k + 1) Z.A) (hx : Z.ex = []) (la : LamAt L Z.outer Z.s_0 Z.H_0 f c cl ws) (hN : Z.N[i]? = some x) (hv : Vis Z.env.scope x) (ha : PA Z (e :: es) t)
    (hd : (x == ("__debug__" : Str)) = false) (hcd : (x == ("__classdict__" : Str)) = false) (he : starEach (e :: es) Z.env = (false, eval e Z.env) :: starEach es Z.env) (hpl : (backTo pos (starEach es Z.env)).any (·.1) = false) :
    PE Z (.Call (.Name x p) (e :: es) [] pos) (fun σ H Q => σ[i]? = some (some (.ref f)) ∧ t σ H fun vs H1 => H1 c = some (CodeO c L.q) ∧ vs.length = L.ps.length ∧ spF W g (vs ++ ws) H1 Q L2.E0) := by
  refine ⟨fun pins s σ H Q I h => ?_⟩
  obtain ⟨hs, ht⟩ := h
  obtain ⟨pm, ctv, hob⟩ := la.ob
  have at_ : ∀ {pins σ H s}, Inv Z pins σ H s → PySem.W.FnAt f s.heap := fun I => ⟨_, _, _, _, I.base.keep f _ hob la.nf la.nfr (by rw [hx]; simp)⟩
  refine wpAny_Call_Name_kw (thn ((pe_var (pos := p) hN hv hd hcd).run pins s σ H (fun v H1 => v = .ref f ∧ H1 = H) I ⟨.ref f, hs, rfl, rfl⟩) fun u s1 ⟨v, H1, I1, r1, q1⟩ => ?_)
  obtain ⟨ev, eH⟩ := q1
  subst ev
  rw [eH] at I1
  obtain rfl : u = Value.ref f := r1
  refine PySem.W.callWith_F (first := []) (at_ I1) (thn (ha.run pos pins s1 σ H _ I1 ht) fun us s2 ⟨vs, H2, I2, r, h1, h2, q⟩ => ⟨at_ I2, ?_⟩) he hpl
  exact lam_run S hb hnp hgd hbody hr I2 hx la h1 r h2 q
end
open Classical in
noncomputable def callLM (q : Str) (f c : Addr) (ws : List V) (i : Nat) (os : List Op) (g : List T → Option Res) : M := fun ρ => match rget ρ i with
  | some (.fn q' f' c' ws' l, .fr) => if q' = q ∧ f' = f ∧ c' = c ∧ ws' = ws then (match opsM os ρ with
    | some (rs, ρ1) => (match vals rs with
      | some ts => (match rget ρ1 i with
        | some (.fn q2 f2 c2 ws2 l2, .fr) => if q2 = q ∧ f2 = f ∧ c2 = c ∧ ws2 = ws then (g (ts ++ l2)).map fun r => (r, ρ1) else none
        | _ => none)
      | none => none)
    | none => none) else none
  | _ => none
section
variable {W : Wd} {σ : L2.St} {H : Hp} {L : Lm} {f c : Addr} {ws : List V} {i n : Nat} {os : List Op} {g : List T → Option Res} {Q : VK}
theorem opsM_len : ∀ {os : List Op} {ρ ρ' : Rho} {rs : List OR}, opsM os ρ = some (rs, ρ') → rs.length = os.length
  | [], ρ, ρ', rs, e => by cases e; rfl
  | .val f :: os, ρ, ρ', rs, e => by
    unfold opsM at e
    split at e
    · cases e
    · split at e
      · cases e
      · rename_i h; cases e; rw [List.length_cons, opsM_len h]; rfl
  | .pk i :: os, ρ, ρ', rs, e => by
    unfold opsM at e
    split at e
    · cases e
    · split at e
      · cases e
      · rename_i h; cases e; rw [List.length_cons, opsM_len h]; rfl
theorem OVs.length {C1 : Av} {A1 : Nat → Option Addr} {H0 H1 : Hp} : ∀ {rs : List OR} {vs : List V}, OVs W σ H0 H1 C1 A1 rs vs → vs.length = rs.length
  | [], vs, h => by have h : vs = [] := h; subst h; rfl
  | r :: rs, vs, h => by
    obtain ⟨v, ws, rfl, _, h2⟩ := h
    rw [List.length_cons, h2.length]; rfl
theorem callL_ok (h : tOf W (callLM L.q f c ws i os g) σ H Q) (hos : os.length = n) : σ[i]? = some (some (.ref f)) ∧ tOs W os σ H fun vs H1 => H1 c = some (CodeO c L.q) ∧ vs.length = n ∧ spF W g (vs ++ ws) H1 Q L2.E0 := by
  obtain ⟨P, C, Z, A, ρ, rr, ρ', S, e, q⟩ := h
  unfold callLM at e
  split at e
  · rename_i q' f' c' ws' l hr
    split at e
    · rename_i hh
      obtain ⟨rfl, rfl, rfl, rfl⟩ := hh
      split at e
      · rename_i rs ρ1 ho
        split at e
        · rename_i ts hs
          split at e
          · rename_i q2 f2 c2 ws2 l2 hr2
            split at e
            · rename_i hh2
              obtain ⟨rfl, rfl, rfl, rfl⟩ := hh2
              obtain ⟨r, hg, e⟩ := Option.map_eq_some_iff.mp e
              cases e
              obtain ⟨v0, e0, s0⟩ := S.slots i _ _ hr
              have s0 := s0.2
              simp only [Rp] at s0
              obtain ⟨rfl, _⟩ := s0
              refine ⟨e0, ops_ok S ho fun vs H1 C1 A1 m o => ?_⟩
              have m0 := m.drop S
              obtain ⟨v1, e1, s1⟩ := m0.sr.slots i _ _ hr2
              have s1 := s1.2
              simp only [Rp] at s1
              obtain ⟨_, nc, hc, rl2⟩ := s1
              have rl := o.rp m.up (m.ctr S) hs
              refine ⟨hc, by rw [o.length, opsM_len ho]; exact hos, av C A1, _, rr, rl.append rl2, m0.sr.avtr, m0.sr.tabs, hg, fun v H2 p => ?_⟩
              obtain ⟨C2, A2, m2, o2⟩ := m0.post p
              exact q v H2 C2 A2 m2 o2
            · cases e
          · cases e
        · cases e
      · cases e
    · cases e
  · cases e
end
section
variable {Z : Cx} {W : Wd} {L : Lm} {f c : Addr} {cl : List (Str × Addr)} {ws : List V}
theorem e_lam {k i : Nat} {g : List T → Option Res} {m : M} {np : Nat} {x : Str} {e : Expr} {es : List Expr} {os : List Op} {p pos : Pos} (S : NScope L.N L.ps L.fr L.scope) (hb : ∀ (cl : List (Str × Addr)) (pm cv ctv : Value) (us : List Value), us.length = L.ps.length → bindArgs (PySem.W.kla_fn "<lambda>" L.q L.params L.body L.scope cl pm cv ctv) ⟨us, []⟩ = pure (L.ps.zip us))
    (hnp : np ≤ L.N.length) (hgd : g = fnE L.N.length np m) (hbody : ∀ (A : Around) (outer : List Env) (s : Shared) (H : Hp), Room k (A.deeper (envF (L.nf cl c) f s.heap.objs.size)) → EE (ncx L2.CX0 Z.prog Z.w Z.K Z.mg Z.base L.N (L.nf cl c) f A outer s H L2.E0) W L.body m)
    (hr : Room (k + 1) Z.A) (la : LamAt L Z.outer Z.s_0 Z.H_0 f c cl ws) (hN : Z.N[i]? = some x) (hv : Vis Z.env.scope x) (ha : EA Z W (e :: es) os) (hos : os.length = L.ps.length)
    (hx : Z.ex = [] := by rfl) (hd : (x == ("__debug__" : Str)) = false := by decide) (hcd : (x == ("__classdict__" : Str)) = false := by decide) (he : starEach (e :: es) Z.env = (false, eval e Z.env) :: starEach es Z.env := by rfl) (hpl : (backTo pos (starEach es Z.env)).any (·.1) = false := by rfl) :
    EE Z W (.Call (.Name x p) (e :: es) [] pos) (callLM L.q f c ws i os g) :=
  PE.imp (pe_lam S hb hnp hgd hbody hr hx la hN hv ha hd hcd he hpl) fun σ H Q q => callL_ok q hos
end
/-! ### a def that is given a lambda as its last argument -/
def capsM : List Nat → Rho → Option (List T)
  | [], _ => some []
  | j :: js, ρ => match rget ρ j with
    | some (t, .fr) => (capsM js ρ).map (t :: ·)
    | _ => none
theorem caps_ok {W : Wd} {P : Hp} {C : Av} {Zo : Option Addr} {A : Nat → Option Addr} {ρ : Rho} {σ : L2.St} {H : Hp} (S : SR W P C Zo A ρ σ H) : ∀ {js : List Nat} {l : List T}, capsM js ρ = some l → ∃ ws : List V, js.map (slotAt σ) = ws.map some ∧ RpL W H (av C A) l ws
  | [], l, e => by cases e; exact ⟨[], rfl, RpL.nil⟩
  | j :: js, l, e => by
    unfold capsM at e
    split at e
    · rename_i t hr
      obtain ⟨l', hl, rfl⟩ := Option.map_eq_some_iff.mp e
      obtain ⟨v, ev, s⟩ := S.slots j t .fr hr
      obtain ⟨ws, h1, h2⟩ := caps_ok S hl
      exact ⟨v :: ws, by rw [List.map_cons, List.map_cons, slotAt_of ev, h1], .cons s.2 h2⟩
    · cases e
def isAt : T → Bool
  | .non => true
  | .bl _ => true
  | .int _ => true
  | .str _ => true
  | _ => false
theorem at_rp {W : Wd} {H : Hp} {av av' : Av} {t : T} {v : V} (h : isAt t = true) (r : Rp W H av t v) : Rp W H av' t v := by
  cases t <;> first | (simp only [Rp] at r ⊢; exact r) | cases h
theorem at_rpl {W : Wd} {H : Hp} {av av' : Av} : ∀ {l : List T} {xs : List V}, l.all isAt = true → RpL W H av l xs → RpL W H av' l xs
  | [], xs, _, r => by simpa only [RpL] using r
  | t :: l, xs, h, r => by
    simp only [List.all_cons, Bool.and_eq_true] at h
    have r' : ∃ y ys, xs = y :: ys ∧ Rp W H av t y ∧ RpL W H av l ys := by simpa only [RpL] using r
    obtain ⟨y, ys, rfl, r1, r2⟩ := r'
    exact .cons (at_rp h.1 r1) (at_rpl h.2 r2)
/-- the three other arguments, then the lambda, of what it captures -/
def giveM (os : List Op) (js : List Nat) (G : List T → List T → Option (List T)) : M := fun ρ => match opsM os ρ with
  | some (rs, ρ1) => (match vals rs with
    | some ts => (match capsM js ρ1 with
      | some l => (match G ts l with
        | some res => if res.all isAt = true then some ((.lst res, true), ρ1) else none
        | none => none)
      | none => none)
    | none => none)
  | none => none
section
variable {X : Cx} {W : Wd} {L : Lm} {a1 a2 a3 : Expr} {o1 o2 o3 : Op} {js : List Nat} {x : Str} {st : Stmt} {ga : Addr} {fd : FuncData} {Ng psg : List Str} {k : Nat} {T0 : List (Addr × Str)} {cc Pt : Addr} {p lpos pos : Pos} {mW : Addr → Addr → List V → SM} {G : List T → List T → Option (List T)}
theorem e_give (hg : Gl X x) (hm : X.mg x = some (.ref ga)) (F : L2.Fun X.K x x st ga fd) (hb : bindB st psg) (Sg : FnScope Ng psg (L2.defScope st)) (h4 : psg.length = 4)
    (hG : ∀ ts l r f c ws, ts.length = 3 → G ts l = some r → outR (mW f c ws (start0 Ng.length (ts ++ [.fn L.q f c ws l]))) = some (.lst r, true))
    (hbody : ∀ (f c : Addr) (cl : List (Str × Addr)) (ws : List V) (s : Shared) (H : Hp) (cdv : Value), LamAt L X.stack s H f c cl ws → Room k (X.A.deeper (envOfC x (L2.defScope st) s.heap.objs.size ga cdv)) →
      ESs (cxOf L2.CX0 X.prog X.w X.K X.mg X.base Ng x (L2.defScope st) ga cdv X.A X.stack s H L2.E0).nox W (L2.defBody st) (mW f c ws))
    (htb : W.tb = T0.map fun p => (p.1, fun _ _ => p.2)) (TB : TabB X.base X.mg cc Pt) (hcode : X.env.code = .ref cc) (hq : L.q = X.env.qual ++ "<lambda>") (hmT : (Pt, X.env.qual ++ "<lambda>") ∈ T0) (hu : ∀ p ∈ T0, p.1 = Pt → p.2 = X.env.qual ++ "<lambda>")
    (hr : Room (k + 1) X.A) (hdef : defaultsOf L.params X.env = ([], [])) (hfree : ∀ y ∈ L.scope.names, y.2 = .free → X.env.scope.names.lookup y.1 = some .cell ∨ X.env.scope.names.lookup y.1 = some .free)
    (hfr : ∀ y ∈ L.fr, (y, NameKind.free) ∈ L.scope.names) (hjs : js.map (fun j => X.N[j]?) = L.fr.map some)
    (ha1 : EO X W a1 o1) (ha2 : EO X W a2 o2) (ha3 : EO X W a3 o3)
    (hdb : (x == ("__debug__" : Str)) = false := by decide)
    (s1 : starEach [a1, a2, a3, .Lambda L.params L.body L.scope lpos] X.env = [(false, eval a1 X.env), (false, eval a2 X.env), (false, eval a3 X.env), (false, eval (.Lambda L.params L.body L.scope lpos) X.env)] := by rfl)
    (s2 : starEach [a2, a3, .Lambda L.params L.body L.scope lpos] X.env = [(false, eval a2 X.env), (false, eval a3 X.env), (false, eval (.Lambda L.params L.body L.scope lpos) X.env)] := by rfl) :
    EE X W (.Call (.Name x p) [a1, a2, a3, .Lambda L.params L.body L.scope lpos] [] pos) (giveM [o1, o2, o3] js G) := by
  refine ⟨fun pins s σ H Q I h => ?_⟩
  obtain ⟨P, C, Zo, A, ρ, rr, ρ', S, e, q⟩ := h
  unfold giveM at e
  split at e
  rotate_left
  · cases e
  rename_i rs ρ1 ho
  split at e
  rotate_left
  · cases e
  rename_i ts hs
  split at e
  rotate_left
  · cases e
  rename_i l hl
  split at e
  rotate_left
  · cases e
  rename_i res hres
  split at e
  rotate_left
  · cases e
  rename_i hat
  cases e
  have q0 : tOs W [o1, o2, o3] σ H fun vs H3 => ∃ C1 A1, Mv W P C Zo A ρ' σ H H3 C1 A1 ∧ OVs W σ H H3 C1 A1 rs vs := ops_ok S ho fun vs H1 C1 A1 m o => ⟨C1, A1, m, o⟩
  have q1 : tO W o1 σ H fun v1 H1 => tO W o2 σ H1 fun v2 H2 => tO W o3 σ H2 fun v3 H3 => ∃ C1 A1, Mv W P C Zo A ρ' σ H H3 C1 A1 ∧ OVs W σ H H3 C1 A1 rs [v1, v2, v3] := q0
  refine wpAny_Call_Name_kw (ld_glob I hg hm ?_ hdb)
  refine PySem.W.callWith_K (h₀ := X.base) I.ok.mod.kin F.kp ?_ (by rw [s1, s2]) (by rw [s2]; rfl)
  rw [s1]
  show wpAny _ _ (spliced [(false, eval a1 X.env), (false, eval a2 X.env), (false, eval a3 X.env), (false, eval (.Lambda L.params L.body L.scope lpos) X.env)]) _ _ s
  refine Calls.spliced_cons (thn (ha1.run pins s σ H _ I q1) fun u1 s1 ⟨v1, H1, I1, r1, q2⟩ => ?_)
  refine Calls.spliced_cons (thn (ha2.run pins s1 σ H1 _ I1 q2) fun u2 s2 ⟨v2, H2, I2, r2, q3⟩ => ?_)
  refine Calls.spliced_cons (thn (ha3.run pins s2 σ H2 _ I2 q3) fun u3 s3 ⟨v3, H3, I3, r3, C1, A1, m, o⟩ => ?_)
  have tbs : Tabs T0 H3 := fun pp hp => by
    have := m.sr.tabs (pp.1, fun _ _ => pp.2) (by rw [htb]; exact List.mem_map.mpr ⟨pp, hp, rfl⟩)
    exact this
  have hfr' : ∀ y ∈ L.scope.names, y.2 = .free → ∃ c, X.env.cells.lookup y.1 = some c := fun y hy e => (hfree y hy e).elim (fun z => I3.ok.has _ (.inl z)) fun z => I3.ok.has _ (.inr z)
  refine Calls.spliced_cons (lam_make2 I3 TB hcode hmT hu tbs hdef hfr' fun f c' pm ctv H4 s4 I4 eN T4 hob hnf hnfr hco => ?_)
  refine Calls.spliced_nil ⟨I4.kIn, ?_⟩
  have m0 := m.drop S
  have eN' : ExtN H3 H4 := ExtN.lam eN
  have tb4 : NdefX.TabsN W.tb H4 := fun pp hp => by
    rw [htb] at hp
    obtain ⟨p0, h0, rfl⟩ := List.mem_map.mp hp
    exact T4 p0 h0
  have S4 := m0.sr.ext eN' tb4
  obtain ⟨ws, hws, rlw⟩ := caps_ok S4 hl
  have cells : CellsAt (cloFrom X.env.cells L.scope.names []) L.fr (ws.map some) s4.heap H4 := by
    rw [← hws]
    exact cells_of I4 (Caps.made I4.ok hfree hfr hjs)
  have la : LamAt L X.stack s4 H4 f c' (cloFrom X.env.cells L.scope.names []) ws := ⟨⟨pm, ctv, by rw [hq]; exact hob⟩, hnf, hnfr, cells⟩
  have rl3 : RpL W H4 (av C A1) ts [v1, v2, v3] := (o.rp m.up (m.ctr S) hs).ext eN'
  have hts : ts.length = 3 := by rw [← rl3.length]; rfl
  have hco' : H4 c' = some (CodeO c' L.q) := by rw [hq]; exact hco
  have sp : spF W (fnG Ng.length 4 (mW f c' ws)) [v1, v2, v3, .ref f] H4 Q L2.E0 := by
    refine ⟨fun a => av C A1 a ∧ a ≠ c', ts ++ [.fn L.q f c' ws l], (.lst res, true), ?_, fun a z => S4.avtr a z.1, tb4, ?_, fun v H' ip => ?_⟩
    · refine RpL.append (vs := [v1, v2, v3]) (ws := [.ref f]) (rl3.sub fun a z => z.1) (.one ?_)
      simp only [Rp]
      exact ⟨trivial, fun z => z.2 rfl, hco', rlw.sub fun a z => z.1⟩
    · unfold fnG
      rw [if_pos (by rw [List.length_append, hts]; rfl)]
      exact hG ts l res f c' ws hts hres
    · obtain ⟨pp, ev, nw, xs, ex, rx⟩ := ip.ow rfl
      have post : RPost W H4 (av C A1) H' (.lst res, true) v := ⟨ip.ext, ip.tabs, (fun z => nomatch z), fun _ => ⟨pp, ev, nw, xs, ex, at_rpl hat rx⟩⟩
      have m4 : Mv W P C Zo A ρ' σ H H4 C A1 := ⟨m0.subA, m0.up, m0.dn, fun a z => Nw.ext eN' (m0.dom a z), S4⟩
      obtain ⟨C2, A2, m2, o2⟩ := m4.post post
      exact q v H' C2 A2 m2 o2
  have bn := F.binds (ps := psg) fun kV doc pm an cdv ct us hl => hb x x kV doc pm an cdv ct us hl
  obtain ⟨oc, od, kV, doc, pm2, an, cdv, ct, osl, rfl, lk, hcd⟩ := F.ex
  have rc : codeAny (model X.prog X.w) X.A (.call (.ref ga) ⟨[u1, u2, u3, .ref f], []⟩) (CR L2.CX0 X.stack X.prog X.w H4 s4 Q L2.E0) s4 := by
    refine run_ofS (N := Ng) (ps := psg) (us := [u1, u2, u3, .ref f]) (vs := [v1, v2, v3, .ref f]) lk hcd Sg hr I4.env0 (bn s4 [u1, u2, u3, .ref f] I4.kIn (by rw [h4]; rfl)) (.cons r1 (.cons r2 (.cons r3 (.cons rfl .nil)))) (by rw [h4]; rfl) fun hr' => ?_
    have bd := hbody f c' _ ws s4 H4 cdv la hr'
    refine ⟨_, bd.nox, ?_⟩
    refine body_ok (fun ts' r' e' => ?_) sp
    unfold fnG at e'
    split at e'
    · rename_i h
      refine ⟨?_, e'⟩
      rw [h]
      have := congrArg List.length Sg.pre
      rw [List.length_take, h4] at this
      omega
    · cases e'
  refine wpAny_call (codeAny_mono rc fun r s2 hq => ?_)
  cases r with
  | error e => exact (show False from hq).elim
  | ok fl =>
    cases fl with
    | ret u => exact I4.after hq
    | next => exact False.elim hq
    | brk => exact False.elim hq
    | cont => exact False.elim hq
end
end Rv
end

section
set_option Elab.async false
set_option autoImplicit false
set_option linter.all false
set_option maxRecDepth 100000
set_option maxHeartbeats 1000000
/-! Rv20: sorted(ts, key=lambda t: (len(t), t)), tuples of texts. -/
namespace Rv
open PySem PySem.Spec L2 LamX NdefX
open PyProof.Rows hiding St

def isStrT : T → Bool
  | .str _ => true
  | _ => false
def tupStrs : T → Bool
  | .tup _ l => l.all isStrT
  | _ => false
def kT : T → T
  | .tup k l => .tup false [.int l.length, .tup k l]
  | t => t
def tleK (a b : T) : Bool := tle (kT a) (kT b)
def gSortK : List T → Option Res
  | [.lst l] => if l.all tupStrs = true ∧ srtOk (l.map kT) = true ∧ l.length ≤ lim then some (.lst (l.mergeSort tleK), true) else none
  | _ => none
theorem reads_strs {h : Heap} : ∀ {l : List T} {vs : List Value} {as : List Addr}, l.all isStrT = true → ReadsAll h vs (pdL l) as → as = []
  | [], _, _, _, r => by cases r; rfl
  | t :: l, _, _, e, r => by
    simp only [List.all_cons, Bool.and_eq_true] at e
    cases t with
    | str x =>
      cases r with
      | cons r1 r2 =>
        cases r1
        rw [reads_strs e.2 r2]; rfl
    | _ => cases e.1
mutual
theorem dOk_up : ∀ {n m : Nat} {t : T}, n ≤ m → dOk n t = true → dOk m t = true
  | n, m, .non, _, _ => by cases m <;> rfl
  | n, m, .bl _, _, _ => by cases m <;> rfl
  | n, m, .int _, _, _ => by cases m <;> rfl
  | n, m, .str _, _, _ => by cases m <;> rfl
  | 0, m, .tup _ l, _, h => by simp [dOk] at h
  | 0, m, .lst l, _, h => by simp [dOk] at h
  | n + 1, 0, .tup _ l, h, _ => by omega
  | n + 1, 0, .lst l, h, _ => by omega
  | n + 1, m + 1, .tup _ l, hm, h => by
    simp only [dOk] at h ⊢
    exact dOkL_up (Nat.le_of_succ_le_succ hm) h
  | n + 1, m + 1, .lst l, hm, h => by
    simp only [dOk] at h ⊢
    exact dOkL_up (Nat.le_of_succ_le_succ hm) h
  | n, m, .dic .., _, h => by cases n <;> simp [dOk] at h
  | n, m, .dit .., _, h => by cases n <;> simp [dOk] at h
  | n, m, .ins .., _, h => by cases n <;> simp [dOk] at h
  | n, m, .fn .., _, h => by cases n <;> simp [dOk] at h
  | n, m, .gfn _, _, h => by cases n <;> simp [dOk] at h
  | n, m, .frl .., _, h => by cases n <;> simp [dOk] at h
theorem dOkL_up : ∀ {n m : Nat} {l : List T}, n ≤ m → dOkL n l = true → dOkL m l = true
  | n, m, [], _, _ => by cases m <;> rfl
  | n, m, t :: l, hm, h => by
    simp only [dOkL, Bool.and_eq_true] at h ⊢
    exact ⟨dOk_up hm h.1, dOkL_up hm h.2⟩
end
section
variable {X : Cx} {pins : List (Addr × Obj)} {σ : L2.St} {H : Hp} {s : Shared}
theorem ld_loc {i : Nat} {x : Str} {v : V} {pos : Pos} {Q : Value → Shared → Prop} {E : Value → Shared → Prop} (I : Inv X pins σ H s) (hN : X.N[i]? = some x) (hv : X.env.scope.names.lookup x = some .local) (e : σ[i]? = some (some v)) (h : ∀ u, L2.RelV v u → Q u s) (hd : (x == ("__debug__" : Str)) = false) :
    wpAny (model X.prog X.w) X.A (eval (.Name x pos) X.env) Q E s := by
  obtain ⟨m, hn, hl⟩ := I.loc
  obtain ⟨u, r, l⟩ := hl i x v hN e (.inl hv)
  rcases l with ⟨hk, hm⟩ | ⟨hk, c, hc, hcell⟩
  · exact wpAny_Name (wpAny_loadName_local I.ok.kind hk hn hm (h u r)) hd
  · rcases hk with hk | hk
    · have hk : X.env.scope.names.lookup x = some .cell := hk
      rw [hv] at hk; cases hk
    · have hk : X.env.scope.names.lookup x = some .free := hk
      rw [hv] at hk; cases hk
/-- lambda t: (len(t), t) at a tuple of texts -/
theorem key_run {q x : Str} {params : Arguments} {scope : Scope} {p1 p2 p3 p4 p5 : Pos} {u5 : Nat} {pm ctv : Value} {f c a : Addr} {k : Nat} {l : List T} {kk : Bool} {W : Wd} {av : Av} {h : Heap} {tk : Nat} (hK : X.K = W.K)
    (S : NScope [x] [x] [] scope) (hb : ∀ (cl : List (Str × Addr)) (pm cv ctv : Value) (us : List Value), us.length = 1 → bindArgs (PySem.W.kla_fn "<lambda>" q params (.Tuple [.Call (.Name "len" p1) [.Name x p2] [] p3, .Name x p4] u5 p5) scope cl pm cv ctv) ⟨us, []⟩ = pure ([x].zip us))
    (hgl : scope.names.lookup ("len" : Str) = some NameKind.globalImplicit) (hml : X.mg "len" = none) (hxd : (x == ("__debug__" : Str)) = false)
    (hr : Room (k + 2) X.A) (I : Inv X pins σ H s) (hob : s.heap.get? f = some (PySem.W.kla_obj "<lambda>" q params (.Tuple [.Call (.Name "len" p1) [.Name x p2] [] p3, .Name x p4] u5 p5) scope [] pm c ctv)) (hc : H c = some (CodeO c q))
    (kp : ∀ b o, s.heap.get? b = some o → h.get? b = some o) (r : Rp W H av (.tup kk l) (.ref a)) (hl : l.all isStrT = true) (hd : dOkL 11 l = true) :
    wpAny (model X.prog X.w) X.A.in1.in1 (call (.ref f) [.ref a]) (PySem.W.KeyPure (.tuple [.int l.length, .tuple (pdL l)]) { s with heap := h, toks := tk }) (fun _ _ => False) { s with heap := h, toks := tk } := by
  have I0 : Inv X pins σ H { s with heap := h, toks := tk } := I.kept kp
  have e0 := I0.env0.in1.in1
  have lim : h.NoLimit := e0.mod.nolimit.keeps fun b o e => (e0.bs b o e).1
  obtain ⟨⟨oc, vs0, t, hoc, hdc, hvc⟩, _, _⟩ := I0.hok c _ hc
  simp only [Rp] at r
  obtain ⟨a', xs, ea, sq, rl⟩ := r
  cases ea
  have hr0 := hr.in1.in1
  refine wpAny_call ?_
  refine PySem.W.kla_callFunE hr0.depth (kp _ _ hob) rfl S.co S.gen rfl ⟨c, oc, vs0, t, rfl, hoc, hdc, hvc⟩ ?_
  rw [hb [] pm (.ref c) ctv [.ref a] rfl]
  refine wpAny_pure (wpAny_newFunctionEnv S.nocell (fun ⟨n, _⟩ hy => S.par n (List.of_mem_zip hy).1) (fun h₁ hns hsb => ⟨lim.fresh _ hsb, ?_⟩) S.kind)
  have kp1 : ∀ b o, h.get? b = some o → h₁.get? b = some o := fun b o e => hsb.extBut b o (Nat.ne_of_lt (Heap.lt_size e)) (Heap.get?_push_of_some _ e)
  have C : CellsAt [] [] ([] : List (Option V)) h H := ⟨rfl, fun y c e => (nomatch e), fun x y c e => (nomatch e), fun i y e => by simp at e⟩
  have J : Inv (ncx L2.CX0 X.prog X.w X.K X.mg X.base [x] ⟨"<lambda>", q, params, [], scope, [], c⟩ f X.A.in1.in1 X.stack { s with heap := h, toks := tk } H L2.E0) [] (startF [x] [V.ref a] []) H { s with heap := h₁, toks := tk + ([x].zip [Value.ref a]).length } :=
    inv_startN (F := ⟨"<lambda>", q, params, [], scope, [], c⟩) S hr0.hd e0 rfl (.cons rfl .nil) C hns kp1
  have hnm : ∀ {Q : Value → Shared → Prop} {E : Value → Shared → Prop} {pos : Pos} {tk' : Nat}, Q (.ref a) { s with heap := h₁, toks := tk' } → wpAny (model X.prog X.w) (X.A.in1.in1.deeper (envF ⟨"<lambda>", q, params, [], scope, [], c⟩ f h.objs.size)) (eval (.Name x pos) (envF ⟨"<lambda>", q, params, [], scope, [], c⟩ f h.objs.size)) Q E { s with heap := h₁, toks := tk' } := fun {Q E pos tk'} hq =>
    ld_loc (J.tok tk') (i := 0) rfl (S.par x (by simp)) (v := .ref a) rfl (fun u ru => by cases ru; exact hq) hxd
  refine PySem.W.kla_codeExpr ?_
  show wpAny (model X.prog X.w) (X.A.in1.in1.deeper (envF ⟨"<lambda>", q, params, [], scope, [], c⟩ f h.objs.size)) (eval (.Tuple [.Call (.Name "len" p1) [.Name x p2] [] p3, .Name x p4] u5 p5) (envF ⟨"<lambda>", q, params, [], scope, [], c⟩ f h.objs.size)) _ _ { s with heap := h₁, toks := tk + 1 }
  refine Tuple_ ?_
  refine Calls.spliced_cons ?_
  refine wpAny_Call_Name_kw (ld_blt (J.tok (tk + 1)) hgl hml boot_len ?_)
  refine PyProof.Rows.callWith_builtin1 (Calls.spliced_cons (hnm (Calls.spliced_nil ?_))) rfl rfl
  obtain ⟨its, rv, pl, hz⟩ := (J.tok (tk + 1)).tuple (a := a) (xs := xs) (by rw [← hK] at sq; exact sq.sq)
  have hlen := rv.length
  have hll := rl.length
  refine len_tuple pl (by simp only [List.size_toArray]; have := line63; omega) ?_
  refine Calls.spliced_cons (hnm (Calls.spliced_nil ?_))
  refine wpAny_newObj_type ?_ (by show 2 ≤ sizeLine; decide)
  refine ⟨_, _, rfl, fun b o e => Heap.get?_push_of_some _ (kp1 b o e), ?_⟩
  obtain ⟨dd, _, _⟩ := pdL_dp 11 l xs hd rl
  rw [← hK] at dd
  obtain ⟨as, ra⟩ := Dp.readsAll (J.tok (tk + 1)) (pdL l) xs its dd rv
  have eas := reads_strs hl ra
  subst eas
  obtain ⟨o, ho, hoc2, n, hod⟩ := pl
  refine Reads.tuple (Heap.get?_push_size _ rfl) rfl rfl ?_
  refine ReadsAll.cons (as := []) (bs := []) ?_ (ReadsAll.cons (as := []) (bs := []) (Reads.tuple (Heap.get?_push_of_some _ ho) hoc2 hod ?_) .nil)
  · have : (its.toArray.size : Int) = l.length := by rw [List.size_toArray, ← hlen, hll]
    rw [this]
    exact .int _ _
  · exact PyProof.Rows.ReadsAll.keeps (fun b o e => Heap.get?_push_of_some _ e) ra
theorem e_sortK {W : Wd} {oa : Op} {e : Expr} {x : Str} {params : Arguments} {scope : Scope} {p p1 p2 p3 p4 p5 kpos lpos pos : Pos} {u5 k : Nat} {T0 : List (Addr × Str)} {cc Pt : Addr}
    (S : NScope [x] [x] [] scope) (hb : ∀ (q : Str) (cl : List (Str × Addr)) (pm cv ctv : Value) (us : List Value), us.length = 1 → bindArgs (PySem.W.kla_fn "<lambda>" q params (.Tuple [.Call (.Name "len" p1) [.Name x p2] [] p3, .Name x p4] u5 p5) scope cl pm cv ctv) ⟨us, []⟩ = pure ([x].zip us))
    (hgl : scope.names.lookup ("len" : Str) = some NameKind.globalImplicit) (hml : X.mg "len" = none) (hms : X.mg "sorted" = none)
    (htb : W.tb = T0.map fun p => (p.1, fun _ _ => p.2)) (TB : TabB X.base X.mg cc Pt) (hcode : X.env.code = .ref cc) (hmT : (Pt, X.env.qual ++ "<lambda>") ∈ T0) (hu : ∀ p ∈ T0, p.1 = Pt → p.2 = X.env.qual ++ "<lambda>")
    (hr : Room (k + 2) X.A) (hdef : defaultsOf params X.env = ([], [])) (hnf : ∀ y ∈ scope.names, y.2 ≠ .free) (hcl : ∀ cells : List (Str × Addr), cloFrom cells scope.names [] = []) (ha : EO X W e oa)
    (hxd : (x == ("__debug__" : Str)) = false := by decide) (hg : Gl X "sorted" := by rfl) (hK : X.K = W.K := by rfl) (he : starEach [e] X.env = (false, eval e X.env) :: starEach [] X.env := by rfl) :
    EE X W (.Call (.Name "sorted" p) [e] [⟨some "key", .Lambda params (.Tuple [.Call (.Name "len" p1) [.Name x p2] [] p3, .Name x p4] u5 p5) scope lpos, kpos⟩] pos) (primM [oa] gSortK) := by
  refine ⟨fun pins s σ H Q I h => ?_⟩
  obtain ⟨P, C, Zo, A, ρ, rr, ρ', S0, e0, qq⟩ := h
  unfold primM at e0
  split at e0
  · cases e0
  rename_i rs ρ1 ho
  split at e0
  · cases e0
  rename_i ts hs
  split at e0
  · cases e0
  rename_i r1 hgs
  cases e0
  have q0 : tOs W [oa] σ H fun vs H3 => ∃ C1 A1, Mv W P C Zo A ρ' σ H H3 C1 A1 ∧ RtL W H3 (av C1 A1) ts vs := ops_ok S0 ho fun vs H1 C1 A1 m o => ⟨C1, A1, m, o.rt m.sr hs⟩
  have q1 : tO W oa σ H fun v1 H1 => ∃ C1 A1, Mv W P C Zo A ρ' σ H H1 C1 A1 ∧ RtL W H1 (av C1 A1) ts [v1] := q0
  unfold gSortK at hgs
  split at hgs
  rotate_left
  · cases hgs
  rename_i l
  split at hgs
  rotate_left
  · cases hgs
  rename_i hh
  cases hgs
  obtain ⟨h1, h2, h3⟩ := hh
  refine wpAny_Call_Name_kw (ld_blt I hg hms boot_sorted ?_)
  refine PyProof.Rows.callWith_kw ?_ (by rw [he]; rfl) (by rw [he]; rfl) rfl rfl
  rw [he]
  show wpAny _ _ (spliced [(false, eval e X.env)]) _ _ s
  refine Calls.spliced_cons (thn (ha.run pins s σ H _ I q1) fun u1 s1 ⟨v1, H1, I1, r1, C1, A1, m, rt⟩ => Calls.spliced_nil ?_)
  show wpAny _ _ (evalAll [(do let v ← eval (.Lambda params (.Tuple [.Call (.Name "len" p1) [.Name x p2] [] p3, .Name x p4] u5 p5) scope lpos) X.env; standAt pos; pure v)]) _ _ s1
  have tbs : Tabs T0 H1 := fun pp hp => by
    have := m.sr.tabs (pp.1, fun _ _ => pp.2) (by rw [htb]; exact List.mem_map.mpr ⟨pp, hp, rfl⟩)
    exact this
  refine wpAny_evalAll_cons (wpAny_bind (lam_make2 I1 TB hcode hmT hu tbs hdef (fun y hy ee => absurd ee (hnf y hy)) fun f c' pm ctv H4 s4 I4 eN T4 hob hnf4 hnfr hco => wpAny_bind (wpAny_standAt (wpAny_pure (wpAny_evalAll_nil ?_)))))
  rw [hcl] at hob
  have eN' : ExtN H1 H4 := ExtN.lam eN
  have tb4 : NdefX.TabsN W.tb H4 := fun pp hp => by
    rw [htb] at hp
    obtain ⟨p0, h0, rfl⟩ := List.mem_map.mp hp
    exact T4 p0 h0
  have m4 : Mv W P C Zo A ρ' σ H H4 C1 A1 := ⟨m.subA, m.up, m.dn, fun a z => Nw.ext eN' (m.dom a z), m.sr.ext eN' tb4⟩
  obtain ⟨v, ev, a, xs, rfl, es, rl⟩ := rt.one
  cases ev
  cases r1
  have es4 : H4 a = some (.lst xs) := eN' a _ es rfl
  have rl4 : RpL W H4 (av C1 A1) l xs := rl.ext eN'
  have hlen := rl4.length
  have ez1 : (l.zip xs).map (·.1) = l := List.map_fst_zip (by omega)
  have ez2 : (l.zip xs).map (·.2) = xs := List.map_snd_zip (by omega)
  obtain ⟨its, rv, hl, hz⟩ := I4.list (.inl (.inl es4))
  have rv' : Vals ((l.zip xs).map (·.2)) its := by rw [ez2]; exact rv
  have hmem : ∀ b ∈ l.zip xs, ∃ kk l', b.1 = .tup kk l' ∧ l'.all isStrT = true ∧ dOkL 11 l' = true := fun b hb => by
    have hb1 : b.1 ∈ l := by rw [← ez1]; exact List.mem_map_of_mem hb
    have t1 := List.all_eq_true.mp h1 _ hb1
    unfold tupStrs at t1
    split at t1
    · rename_i kk l' ee
      refine ⟨kk, l', ee, t1, ?_⟩
      unfold srtOk at h2
      simp only [Bool.and_eq_true] at h2
      have := dOkL_mem h2.1.1 (kT b.1) (List.mem_map_of_mem hb1)
      rw [ee] at this
      simp only [kT, dOk, dOkL, Bool.true_and, Bool.and_true] at this
      exact dOkL_up (by decide) this
    · cases t1
  have hsrt : srtOk ((l.zip xs).map fun b => kT b.1) = true := by
    have : (l.zip xs).map (fun b => kT b.1) = l.map kT := by
      rw [← ez1, List.map_map, ez1]; rfl
    rw [this]; exact h2
  have hAl : PySem.W.AllAlike ((l.zip xs).map fun b => pd (kT b.1)) := by
    have := srt_alike (bs := (l.zip xs).map fun b => (kT b.1, b.2)) (by rw [List.map_map]; exact hsrt)
    rw [List.map_map] at this; exact this
  have hAb : PySem.W.Sortable ((l.zip xs).map fun b => pd (kT b.1)) := by
    have := srt_able (bs := (l.zip xs).map fun b => (kT b.1, b.2)) (by rw [List.map_map]; exact hsrt)
    rw [List.map_map] at this; exact this
  have hZ : (l.zip xs).length ≤ sizeLine := by rw [List.length_zip, ← lim_eq]; omega
  show wpAny _ _ (call (.builtin "sorted") [.ref a] [(Str.ofString "key", .ref f)]) _ _ s4
  refine PySem.W.sorted_key_data (R := fun u b => L2.RelV b.2 u) (bs := l.zip xs) (b := false) (fun b => pd (kT b.1)) hl.isList (each_zip rv' fun b _ u r => r) hAl hAb hZ (fun b hb' => ?_) (ksk_s1 (.ref a) (.ref f)) (fun z => ksk_l1 (.ref z) (.ref f)) (fun z => ksk_t1 f z) (fun vv b hR hb' hh tk kp => ?_) fun out cc2 h' tk kp hnone hat hlo eo => ?_
  · obtain ⟨kk, l', eb, t1, d1⟩ := hmem b hb'
    obtain ⟨dd, _, dp⟩ := pd_dp 12 b.1 b.2 (by rw [eb]; simp only [dOk]; exact d1) (rl4.zip_mem b hb')
    have : (pd (kT b.1)).depth ≤ 13 := by
      rw [eb] at dp ⊢
      simp only [pd, kT, pdL, PyData.depth, PyData.depthAll] at dp ⊢
      omega
    have := hr.un
    omega
  · obtain ⟨kk, l', eb, t1, d1⟩ := hmem b hb'
    have rb := rl4.zip_mem b hb'
    rw [eb] at rb ⊢
    have rb' := rb
    simp only [Rp] at rb'
    obtain ⟨ab, xsb, ebv, _, _⟩ := rb'
    rw [ebv] at hR rb
    cases hR
    have := key_run (tk := tk) hK S (fun cl pm cv ctv us hu => hb _ cl pm cv ctv us hu) hgl hml hxd hr I4 hob hco kp rb t1 d1
    exact this
  · have hl2 : l.mergeSort tleK = ((l.zip xs).mergeSort (PySem.W.dataLe false fun b => pd (kT b.1))).map (·.1) := by
      have := PySem.W.sort_maps (r := PySem.W.dataLe false fun b : T × V => pd (kT b.1)) (s := tleK) (fun b : T × V => b.1) (l := l.zip xs) (fun a _ b _ => rfl)
      rw [this, ez1]
    have hD : H4 (s4.heap.objs.size + 1) = none := I4.hok.fresh (Nat.le_succ _)
    have post : RPost W H4 (av C1 A1) (upd H4 (s4.heap.objs.size + 1) (.lst (((l.zip xs).mergeSort (PySem.W.dataLe false fun b => pd (kT b.1))).map (·.2)))) (.lst (l.mergeSort tleK), true) (.ref (s4.heap.objs.size + 1)) := by
      rw [hl2]
      exact RPost.lst tb4 hD (RpL.of_mem fun b hb => rl4.zip_mem b ((List.mergeSort_perm _ _).mem_iff.mp hb))
    obtain ⟨C2, A2, m2, o2⟩ := m4.post post
    have hok : ObjOk X.prog X.w (upd H4 (s4.heap.objs.size + 1) (.lst (((l.zip xs).mergeSort (PySem.W.dataLe false fun b => pd (kT b.1))).map (·.2)))) h' (s4.heap.objs.size + 1) (.lst (((l.zip xs).mergeSort (PySem.W.dataLe false fun b => pd (kT b.1))).map (·.2))) :=
      ⟨by rw [List.length_map, List.length_mergeSort]; exact hZ, out, cc2, vals_each eo, hat⟩
    exact ⟨.ref _, _, I4.laid (t' := tk) kp (Nat.le_succ _) hok, rfl, qq _ _ C2 A2 m2 o2⟩
end
end Rv
end

section
set_option Elab.async false
set_option autoImplicit false
set_option linter.all false
set_option maxRecDepth 100000
set_option maxHeartbeats 1000000
/-! Rv21: o[k], x = pair; defs whose code object is known; recursion's ground. -/
namespace Rv
open PySem PySem.Spec L2 LamX NdefX
open PyProof.Rows hiding St

/-- the world of a top -/
abbrev WK (K : PySem.W.Frag) (ca : Nat → Addr) (T0 : List (Addr × Str)) : Wd := { K := K, ca := ca, fa := fun i => ca (i + 100), tb := T0.map fun p => (p.1, fun _ _ => p.2) }
def asgSN (i : Nat) (k : Int) (j : Nat) (m : M) : SM := fun ρ => match m ρ with
  | some ((.tup _ [a, b], false), ρ1) => (match ownM ρ1 i with
    | some (.lst l, own) => (match ixN l.length k with
      | some n => (match setM (ρ1.set i (some (.lst (l.set n a), own))) j b false with
        | some ρ2 => some (.nx, ρ2)
        | none => none)
      | none => none)
    | _ => none)
  | _ => none
section
variable {X : Cx} {W : Wd} {a b e : Expr} {f : M} {x : Str} {i j : Nat} {k : Int} {p p2 p3 pos : Pos} {u : Nat}
theorem setSN_ok {D : Ends} {σ : L2.St} {H : Hp} (h : tSf W (asgSN i k j f) D σ H) : tAsg (tOf W f) (L2.gTup W.K 2 (gCons (gSub (tVar i) (tC (.int k)) rSetL) (gCons (gName j) gNil))) D σ H := by
  obtain ⟨P, C, Z, A, ρ, out, ρ', S, e, q⟩ := h
  unfold asgSN at e
  split at e
  · rename_i kk ta tb ρ1 hf
    split at e
    · rename_i l own hw
      split at e
      · rename_i n hn
        split at e
        · rename_i ρ2 hs
          cases e
          refine ⟨P, C, Z, A, ρ, _, ρ1, S, hf, fun v H1 C1 A1 m o => ?_⟩
          have o' : Rp W H1 (av C1 A1) (T.tup kk [ta, tb]) v := o
          have o' := o'.sub (av' := av C A1) (av_sub m.up)
          simp only [Rp, RpL] at o'
          obtain ⟨pa, xs, rfl, s, x0, ys, rfl, r0, x1, zs, rfl, r1, rfl⟩ := o'
          have m0 := m.drop S
          obtain ⟨pp, ep, es, c⟩ := m0.sr.owned hw
          obtain ⟨hr, hno⟩ := ownM_inv hw
          obtain ⟨xs0, ex, rl⟩ := c
          have hap : av C A1 pp := .inr ⟨i, ep⟩
          have S2 := m0.sr.updA (o' := .lst (xs0.set n x0)) (t' := .lst (l.set n ta)) hr ep ex rfl rfl ⟨_, upd_same, (RpL.set r0 n rl).upd hap⟩
          have S3 := S2.setFr hs ((r1.upd hap))
          exact ⟨pa, [x0, x1], rfl, s.sq, rfl, x0, [x1], rfl, .ref pp, es, pp, xs0, k, n, rfl, rfl, ex, by rw [rl.length]; exact hn, x1, [], rfl, rfl, q _ _ _ S3⟩
        · cases e
      · cases e
    · cases e
  · cases e
/-- o[k], x = e -/
theorem s_setSN (i j : Nat) (hN : X.N.Nodup) (hj : X.N[j]? = some x) (hx : Loc X.env.scope x) (hfx : X.fn x = true ∨ X.env.scope.names.lookup x = some .local) (ho : PE X a (tVar i)) (hk : PE X b (tC (.int k))) (he : EE X W e f) (hc : X.calm = true := by rfl)
    (ha : ∀ v, assign (.Subscript a b p) X.env v = (do
      let ov ← holding [v] (eval a X.env)
      let iv ← holding [v, ov] (eval b X.env)
      standAt p
      holding [v, ov, iv] (setItem ov iv v)
      release [v, ov, iv] []) := by intro _; rfl)
    (hs1 : (assignEach [.Subscript a b p, .Name x p2] X.env).map (·.2) = assign (.Subscript a b p) X.env :: (assignEach [.Name x p2] X.env).map (·.2) := by rfl) (hs2 : (assignEach [.Name x p2] X.env).map (·.2) = assign (.Name x p2) X.env :: (assignEach [] X.env).map (·.2) := by rfl)
    (hn : (assignEach [.Subscript a b p, .Name x p2] X.env).length = 2 := by rfl) (hst : (assignEach [.Subscript a b p, .Name x p2] X.env).findIdx? (·.1) = none := by rfl)
    (hs : swapsWithSole [.Tuple [.Subscript a b p, .Name x p2] u p3] e pos.line X.env = pure false := by rfl) (hw : swappedStores [.Tuple [.Subscript a b p, .Name x p2] u p3] e X.env = pure none := by rfl) (h1 : (assignEach [.Tuple [.Subscript a b p, .Name x p2] u p3] X.env).map (·.2) = [assign (.Tuple [.Subscript a b p, .Name x p2] u p3) X.env] := by rfl) (hK : X.K = W.K := by rfl) :
    ES X W (.Assign [.Tuple [.Subscript a b p, .Name x p2] u p3] e pos) (asgSN i k j f) :=
  PS.imp (ps_asg he (pg_tup hc (pgs_cons (pg_sub ho hk set_list ha) (pgs_cons (pg_name hN hj hx hfx) pgs_nil hs2) hs1) hn hst) hs hw h1) fun D σ H q => by rw [hK]; exact setSN_ok q
theorem ss_no {sts : List Stmt} : ESs X W sts noM := PSs.imp pss_never fun D σ H q => noM_ok q
end
/-- as Fun, the def's code object at cc -/
structure FunC (K : PySem.W.Frag) (x qual : Str) (st : Stmt) (f : Addr) (fd : FuncData) (cc : Addr) : Prop where
  ex : ∃ (oc : Value) (od : Option Addr) (kV doc pm : Value) (an : Option Addr) (ct : Value) (osl : Array (Option Value)),
    fd = PySem.W.fnOf x qual (L2.defArgs st) (L2.defBody st) (L2.defScope st) .none kV doc pm an (.ref cc) ct ∧ K.lookup f = some ⟨oc, od, .func fd, osl⟩ ∧ PySem.W.codeIn K (.ref cc) qual = true
  kp : PySem.W.keepIn K (.ref f) = true
theorem FunC.to {K : PySem.W.Frag} {x qual : Str} {st : Stmt} {f : Addr} {fd : FuncData} {cc : Addr} (F : FunC K x qual st f fd cc) : L2.Fun K x qual st f fd := by
  obtain ⟨oc, od, kV, doc, pm, an, ct, osl, e, lk, hcd⟩ := F.ex
  exact ⟨⟨oc, od, kV, doc, pm, an, .ref cc, ct, osl, e, lk, hcd⟩, F.kp⟩
section
variable {P : Program} {w : World} {K : PySem.W.Frag} {mg : Str → Option Value} {base : Heap} {qual x : Str} {fa cc : Addr} {fd : FuncData} {N ps : List Str} {st : Stmt} {W : Wd} {m : SM} {k : Nat}
theorem fn_okC {n np : Nat} {g : List T → Option Res} (F : FunC K x qual st fa fd cc) (S : FnScope N ps (L2.defScope st)) (hn : N.length = n) (hp : ps.length = np) (hnp : np ≤ n) (hgd : g = fnG n np m)
    (body : ∀ (A : Around) (outer : List Env) (s : Shared) (H : Hp) (E : XK), Room k (A.deeper (envOfC qual (L2.defScope st) s.heap.objs.size fa (.ref cc))) → ESs (cxOf L2.CX0 P w K mg base N qual (L2.defScope st) fa (.ref cc) A outer s H E).nox W (L2.defBody st) m) :
    FnOk P w K mg base L2.CX0 (k + 1) fa fd ps (spF W g) := by
  subst hn hp hgd
  have hl : ∀ ts r, fnG N.length ps.length m ts = some r → ts.length = ps.length ∧ outR (m (start0 N.length ts)) = some r := fun ts r e => by
    unfold fnG at e
    split at e
    · rename_i h; exact ⟨h, e⟩
    · cases e
  obtain ⟨oc, od, kV, doc, pm, an, ct, osl, rfl, lk, hcd⟩ := F.ex
  refine fn_of lk hcd S (fun vs H Q E h => ?_) fun A outer s H vs Q E hr h => ⟨_, (body A outer s H E hr).nox, body_ok (fun ts r e => ?_) h⟩
  · obtain ⟨av, ts, r, rl, _, _, e, _⟩ := h
    rw [rl.length]; exact (hl ts r e).1
  · exact ⟨by rw [(hl ts r e).1]; exact hnp, (hl ts r e).2⟩
end
end Rv
end

section
set_option Elab.async false
set_option autoImplicit false
set_option linter.all false
set_option maxRecDepth 100000
set_option maxHeartbeats 1000000
namespace Rv
open PySem PySem.Spec L2 LamX NdefX
open PyProof.Rows hiding St
theorem slH_at {k : Bool} {xs : List T} {i : Nat} (h : i < xs.length) : gSlH [.tup k xs, .int i] = some (.tup false (xs.take i), false) := by
  have h1 : HT.sIx xs.length xs.length (some (i : Int)) = i := by
    simp only [HT.sIx]
    split <;> omega
  have h0 : HT.sIx xs.length 0 none = 0 := by simp [HT.sIx]
  have : ¬ i = xs.length := by omega
  simp only [gSlH, gCut, whole, cutG, h1, h0]
  simp [this]
theorem gEqI {i j : Int} : gEq [.int i, .int j] = some (.bl (decide (i = j)), false) := by
  simp only [gEq, dOk, teq]
  simp [BEq.beq]
theorem gLtI {i j : Int} : gLt [.int i, .int j] = some (.bl (decide (i < j)), false) := by
  simp [gLt, gCmp, dOk, pd, PySem.W.alike, PySem.W.dataLt_int, isNon]
end Rv
end

section
set_option Elab.async false
set_option autoImplicit false
set_option linter.all false
set_option maxRecDepth 100000
set_option maxHeartbeats 1000000
/-! Rv23: the head: facts of the top by a Hook, getters of properties among them, and the law's end. -/
namespace Rv
open PySem PySem.Spec L2 LamX NdefX
open PyProof.Rows hiding St

/-! ### a def whose code object is told -/
theorem func_of {K : PySem.W.Frag} {p : He.Defn} {x qual : Str} {st : Stmt} {kws : List (Str × V)} {fd : FuncData} (F : L2.FunD K x qual (L2.defArgs st) (L2.defBody st) (L2.defScope st) [] kws (He.fAd K p) fd) : FunC K x qual st (He.fAd K p) fd (He.codeOf K p) := by
  obtain ⟨oc, od, dV, kV, doc, pm, an, cdv, ct, osl, e, l, c, hd, _⟩ := F.ex
  obtain ⟨cc, rfl⟩ := He.codeIn_ref c
  rcases hd with ⟨_, e2⟩ | ⟨e2, _⟩
  · subst e2
    have ec : He.codeOf K p = cc := He.codeOf_eq l (by rw [e])
    rw [ec]
    exact ⟨⟨oc, od, kV, doc, pm, an, ct, osl, e, l, c⟩, F.kp⟩
  · exact absurd rfl e2
theorem fun_uniq {K : PySem.W.Frag} {x x' q q' : Str} {st st' : Stmt} {f : Addr} {fd fd' : FuncData} (F : L2.Fun K x q st f fd) (F' : L2.Fun K x' q' st' f fd') : fd = fd' := by
  obtain ⟨oc, od, kV, doc, pm, an, cdv, ct, osl, e, l, c⟩ := F.ex
  obtain ⟨oc', od', kV', doc', pm', an', cdv', ct', osl', e', l', c'⟩ := F'.ex
  rw [l] at l'
  injection l' with h
  injection h with h1 h2 h3 h4
  injection h3

/-! ### facts as Bools -/
def propA (K : PySem.W.Frag) (x y : Str) : Addr := He.ma K (He.ga K x) y
def getA (x y : Str) (K : PySem.W.Frag) : Addr := match PySem.W.recIn K (propA K x y) "property" with
  | some (.ref g :: _) => g
  | _ => 0
def propB (K : PySem.W.Frag) (x y : Str) : Bool := He.eqO (PySem.W.findIn K (.ref (He.ga K x)) y) (some (some (.ref (propA K x y)))) && (He.eqO (PySem.W.specialIn K (.ref (propA K x y)) "__get__") (some (some (.builtin "property.__get__"))) && (decide (PySem.W.takesIn K (.ref (propA K x y)) = some true) && (match PySem.W.recIn K (propA K x y) "property" with
  | some (.ref _ :: _) => true
  | _ => false)))
theorem propB_ok {K : PySem.W.Frag} {x y : Str} (h : propB K x y = true) : PropOf K (He.ga K x) y (propA K x y) (getA x y K) := by
  obtain ⟨h1, h⟩ := He.ba h
  obtain ⟨h2, h⟩ := He.ba h
  obtain ⟨h3, h4⟩ := He.ba h
  refine ⟨He.eqO_ok h1, He.eqO_ok h2, of_decide_eq_true h3, ?_⟩
  unfold getA
  split at h4
  · rename_i g r e
    exact ⟨r, by rw [e]⟩
  · cases h4
def insB (K : PySem.W.Frag) (x : Str) : Bool := He.eqO (PySem.W.findIn K (.ref (He.ga K x)) "__class__") (some (some (.builtin "object.__class__"))) && (He.eqO (PySem.W.specialIn K (.builtin "object.__class__") "__get__") (some (some (.builtin "getset_descriptor.__get__"))) && (decide (PySem.W.takesIn K (.builtin "object.__class__") = some true) &&
  (decide (PySem.W.mroIn K (He.ga K x) (.type "object") = some true) && decide (PySem.W.kitOne K (.ref (He.ga K x)) (.ref (He.ga K x)) = some true))))
theorem insB_ok {K : PySem.W.Frag} {x : Str} (c : L2.Cls K (He.ga K x)) (h : insB K x = true) : C8.InsC K (He.ga K x) := by
  obtain ⟨h1, h⟩ := He.ba h
  obtain ⟨h2, h⟩ := He.ba h
  obtain ⟨h3, h⟩ := He.ba h
  obtain ⟨h4, h5⟩ := He.ba h
  exact ⟨c, He.eqO_ok h1, He.eqO_ok h2, of_decide_eq_true h3, of_decide_eq_true h4, of_decide_eq_true h5⟩
def strsB (K : PySem.W.Frag) (x : Str) (vs : List Str) : Bool := match K.lookup (He.ga K x) with
  | some ⟨.type c, none, .seq its _, _⟩ => decide (c = "tuple") && (decide (its.size ≤ sizeLine) && He.relAll (vs.map V.str) its.toList)
  | _ => false
theorem strsB_ok {K : PySem.W.Frag} {x : Str} {vs : List Str} (h : strsB K x vs = true) : Kt K (He.ga K x) (vs.map V.str) := by
  unfold strsB at h
  split at h
  · rename_i c its n sl q
    obtain ⟨h1, h2⟩ := He.ba h
    obtain ⟨h3, h4⟩ := He.ba h2
    exact ⟨_, its, n, q, congrArg Value.type (of_decide_eq_true h1), rfl, rfl, of_decide_eq_true h3, He.relAll_ok h4⟩
  · cases h

/-! ### the Hook -/
def lamN (p : He.Defn) : Str := p.1 ++ ".<locals>." ++ "<lambda>"
def T0of (K : PySem.W.Frag) (tf : List He.Defn) : List (Addr × Str) := tf.map fun p => ((He.cT K p).2, lamN p)
def nodB (K : PySem.W.Frag) (tf : List He.Defn) : Bool := decide ((tf.map fun p => (He.cT K p).2).Nodup)
theorem T0_mem {K : PySem.W.Frag} {tf : List He.Defn} {p : He.Defn} (h : p ∈ tf) : ((He.cT K p).2, lamN p) ∈ T0of K tf := List.mem_map.mpr ⟨p, h, rfl⟩
theorem T0_one {K : PySem.W.Frag} {tf : List He.Defn} {p : He.Defn} (h : p ∈ tf) (hn : nodB K tf = true) : ∀ q ∈ T0of K tf, q.1 = (He.cT K p).2 → q.2 = lamN p := by
  intro q hq e
  obtain ⟨p', hp', rfl⟩ := List.mem_map.mp hq
  have nd : (tf.map fun p => (He.cT K p).2).Nodup := of_decide_eq_true hn
  have key : ∀ (l : List He.Defn) (a b : He.Defn), (l.map fun p => (He.cT K p).2).Nodup → a ∈ l → b ∈ l → (He.cT K a).2 = (He.cT K b).2 → a = b := by
    intro l
    induction l with
    | nil => intro a b _ h; cases h
    | cons c l ih =>
      intro a b n ha hb e
      rw [List.map_cons, List.nodup_cons] at n
      rcases List.mem_cons.mp ha with rfl | ha'
      · rcases List.mem_cons.mp hb with rfl | hb'
        · rfl
        · exact absurd (List.mem_map.mpr ⟨b, hb', e.symm⟩) n.1
      · rcases List.mem_cons.mp hb with rfl | hb'
        · exact absurd (List.mem_map.mpr ⟨a, ha', e⟩) n.1
        · exact ih a b n.2 ha' hb' e
  rw [key tf p' p nd hp' h e]
abbrev AlP : Type := He.AlX × He.AlD
def obsP (n : Nat) (fa : List He.Fa) (fn : List He.DefD) (tf : List He.Defn) (ex : PySem.W.Frag → Bool) (fp : List He5.DefA) (g : Addr → Option Obj) : AlP := (He.obsX n fa fn [] tf ex g, He5.obsA [] fp (He.frT g (He.asD g n)))
structure SaysP (fa : List He.Fa) (fn : List He.DefD) (tf : List He.Defn) (ex : PySem.W.Frag → Bool) (fp : List He5.DefA) (w : World) (h : Heap) (K : PySem.W.Frag) : Prop where
  x : He.SaysX fa fn [] tf ex w h K
  a : He5.SaysA [] fp K
def hookP (n : Nat) (fa : List He.Fa) (fn : List He.DefD) (tf : List He.Defn) (ex : PySem.W.Frag → Bool) (fp : List He5.DefA) : PySem.W.Hook where
  α := AlP
  obs := fun s => obsP n fa fn tf ex fp s.heap.get?
  val := fun w => (He.valX fn [] w, He5.valA fp)
  says := fun w h => ∃ K : PySem.W.Frag, K.In h ∧ SaysP fa fn tf ex fp w h K
  of := fun _ _ e => ⟨_, He.frT_in, He.saysX_of (congrArg (fun z : AlP => z.1) e), congrArg (fun z : AlP => z.2) e⟩
  keeps := fun _ _ _ ⟨K, hK, c⟩ k => ⟨K, PySem.W.Frag.In.keeps hK k, ⟨⟨c.x.t, c.x.more, c.x.hd, c.x.out, fun p hp => k _ _ (c.x.empty p hp)⟩, c.a⟩⟩
theorem obsP_eq {n : Nat} {fa : List He.Fa} {fn : List He.DefD} {tf : List He.Defn} {ex : PySem.W.Frag → Bool} {fp : List He5.DefA} {g : Addr → Option Obj} {s : Shared} (h : ∀ a, g a = s.heap.get? a) : obsP n fa fn tf ex fp g = (hookP n fa fn tf ex fp).obs s := by
  have e : g = s.heap.get? := funext h
  rw [e] <;> rfl

/-! ### the law's end -/
theorem law_at {l : PySem.W.OpenLaw} {w : World} {K : PySem.W.Frag} {mg : Str → Option Value} {fa : Addr} {h : Heap} {fas : List He.Fa} {fn : List He.DefD} {tf : List He.Defn} {ex : PySem.W.Frag → Bool} {fp : List He5.DefA} {ca : Nat → Addr} {st : Stmt} {k n : Nat} {x : Str} {fd : FuncData} {kws : List (Str × V)} {g : List T → Option Res}
    (X : K.In h) (S : SaysP fas fn tf ex fp w h K) (hfa : mg "law" = some (.ref fa)) (F : L2.FunD K "law" "law" (L2.defArgs st) (L2.defBody st) (L2.defScope st) [] kws fa fd) (hb : bindB st [x])
    (D : ∀ base : Heap, K.In base → base.Ns mainGlobals mg → (∀ p ∈ tf, TabB base mg (He.cT K p).1 (He.cT K p).2) → DefOk l.prog w K mg base k "law" st [x] (spF (WK K ca (T0of K tf)) g))
    (hg : ∀ ns : List Int, ns.length ≤ n → g [.frl (ns.map T.int)] = some (.bl true, false)) : LawAtS l w K L2.CX0 k n x mg fa h := by
  refine ⟨fd, tf.map (He.cT K), spF (WK K ca (T0of K tf)) g, fun p hp => ?_, fun p hp => ?_, fun p hp => ?_, fun s v => ?_, fun H a ns hl _ hT hS => ?_, fun base hK hN hB => ?_⟩
  · obtain ⟨q, hq, rfl⟩ := List.mem_map.mp hp
    exact S.x.empty q hq
  · obtain ⟨q, hq, rfl⟩ := List.mem_map.mp hp
    exact S.x.out q hq
  · obtain ⟨q, hq, rfl⟩ := List.mem_map.mp hp
    exact PySem.W.codeHd_of_K X (S.x.hd q hq)
  · exact FunD.bindsA (ps := [x]) F (fun pm cdv ct us kV doc an hl => hb _ _ _ _ _ _ _ _ _ hl) s [v] rfl
  · refine ⟨fun _ => False, [.frl (ns.map T.int)], (.bl true, false), ?_, fun _ z => z.elim, ?_, hg ns hl, fun v H' p => ?_⟩
    · have r : ∀ ns : List Int, RpL (WK K ca (T0of K tf)) H (fun _ => False) (ns.map T.int) (ns.map V.int) := by
        intro ns
        induction ns with
        | nil => exact .nil
        | cons i ns ih => exact .cons (by simp only [Rp]) ih
      refine .cons ?_ .nil
      simp only [Rp]
      refine ⟨a, ns.map V.int, rfl, ?_, r ns⟩
      rcases hS with hS | hS
      · exact .inl ⟨fun z => z, hS⟩
      · obtain ⟨o, its, n, h1, h2, h3, h4, h5, h6⟩ := hS
        exact .inr ⟨o, its, n, h1, h2, h3, h4, h5, h6⟩
    · intro p hp
      obtain ⟨q, hq, rfl⟩ := List.mem_map.mp hp
      obtain ⟨d, hd, rfl⟩ := List.mem_map.mp hq
      exact TabN.nil (hT _ (List.mem_map.mpr ⟨d, hd, rfl⟩))
    · have := p.fr rfl
      simpa only [Rp] using this
  · obtain ⟨f, fd', hm, F', _, ok⟩ := D base hK hN fun p hp => hB _ (List.mem_map.mpr ⟨p, hp, rfl⟩)
    rw [hfa] at hm
    cases hm
    have e : fd = fd' := fun_uniq (He5.fun_of F) F'
    rw [e]
    exact ok
end Rv
end

section
set_option Elab.async false
set_option autoImplicit false
set_option linter.all false
set_option maxRecDepth 100000
set_option maxHeartbeats 1000000
/-! Rv24: rules for what a reading comes to: loops by invariants, comprehensions by maps. -/
namespace Rv
open PySem PySem.Spec L2 LamX NdefX
open PyProof.Rows hiding St

/-- o comes to something with Q -/
def Go {α : Type} (o : Option α) (Q : α → Prop) : Prop := ∃ x, o = some x ∧ Q x
section
variable {α β : Type} {Q Q' : α → Prop}
@[simp] theorem go_some {x : α} : Go (some x) Q ↔ Q x := ⟨fun ⟨_, e, q⟩ => by cases e; exact q, fun q => ⟨x, rfl, q⟩⟩
@[simp] theorem go_none : Go (none : Option α) Q ↔ False := ⟨fun ⟨_, e, _⟩ => (nomatch e), False.elim⟩
theorem Go.mono {o : Option α} (h : Go o Q) (k : ∀ x, Q x → Q' x) : Go o Q' := by
  obtain ⟨x, e, q⟩ := h
  exact ⟨x, e, k x q⟩
theorem go_of {o : Option α} {x : α} (e : o = some x) (q : Q x) : Go o Q := ⟨x, e, q⟩
end
section
variable {Q : Out × Rho → Prop} {f g : SM} {c : M} {ρ : Rho} {src : SrcM} {tg : Tg} {body : SM}
theorem go_seq (h : Go (f ρ) fun x => match x with | (.nx, ρ1) => Go (g ρ1) Q | y => Q y) : Go (seqM f g ρ) Q := by
  obtain ⟨⟨o, ρ1⟩, e, q⟩ := h
  unfold seqM
  rw [e]
  cases o with
  | nx => exact q
  | bk => exact ⟨_, rfl, q⟩
  | ct => exact ⟨_, rfl, q⟩
  | rt r => exact ⟨_, rfl, q⟩
theorem seq_nx {ρ1 : Rho} (h : f ρ = some (.nx, ρ1)) : seqM f g ρ = g ρ1 := by unfold seqM; rw [h]
theorem go_if {b : Bool} {ρ1 : Rho} (hc : c ρ = some ((.bl b, false), ρ1)) (h : Go (cond b (f ρ1) (g ρ1)) Q) : Go (ifM c f g ρ) Q := by
  unfold ifM
  rw [hc]
  cases b <;> exact h
theorem if_t {ρ1 : Rho} (hc : c ρ = some ((.bl true, false), ρ1)) : ifM c f g ρ = f ρ1 := by unfold ifM; rw [hc]
theorem if_f {ρ1 : Rho} (hc : c ρ = some ((.bl false, false), ρ1)) : ifM c f g ρ = g ρ1 := by unfold ifM; rw [hc]
theorem go_for {ts : List T} {ρ1 : Rho} (hs : src ρ = some (ts, ρ1)) (h : Go (forLoop tg body ts ρ1) Q) : Go (forM src tg body ρ) Q := by
  unfold forM
  rw [hs]
  exact h
theorem for_eq {ts : List T} {ρ1 : Rho} (hs : src ρ = some (ts, ρ1)) : forM src tg body ρ = forLoop tg body ts ρ1 := by
  unfold forM
  rw [hs]
/-- a for loop by what holds before the things left -/
theorem go_loop {I : List T → Rho → Prop} (hend : ∀ ρ, I [] ρ → Q (.nx, ρ))
    (step : ∀ t rest ρ, I (t :: rest) ρ → Go (tgM tg t ρ) fun ρ1 => Go (body ρ1) fun x => match x with | (.nx, ρ2) => I rest ρ2 | (.ct, ρ2) => I rest ρ2 | (.bk, ρ2) => Q (.nx, ρ2) | (.rt r, ρ2) => Q (.rt r, ρ2)) :
    ∀ (ts : List T) (ρ : Rho), I ts ρ → Go (forLoop tg body ts ρ) Q
  | [], ρ, h => ⟨_, rfl, hend ρ h⟩
  | t :: ts, ρ, h => by
    obtain ⟨ρ1, e1, ⟨o, ρ2⟩, e2, q⟩ := step t ts ρ h
    unfold forLoop
    rw [e1]
    simp only
    rw [e2]
    cases o with
    | nx => exact go_loop hend step ts ρ2 q
    | ct => exact go_loop hend step ts ρ2 q
    | bk => exact ⟨_, rfl, q⟩
    | rt r => exact ⟨_, rfl, q⟩
/-- .. over a list's images, by what is done and what is left -/
theorem go_loopM {β : Type} {F : β → T} {J : List β → List β → Rho → Prop} {l : List β} (hend : ∀ ρ, J l [] ρ → Q (.nx, ρ))
    (step : ∀ done x rest ρ, l = done ++ x :: rest → J done (x :: rest) ρ → Go (tgM tg (F x) ρ) fun ρ1 => Go (body ρ1) fun z => match z with | (.nx, ρ2) => J (done ++ [x]) rest ρ2 | (.ct, ρ2) => J (done ++ [x]) rest ρ2 | (.bk, ρ2) => Q (.nx, ρ2) | (.rt r, ρ2) => Q (.rt r, ρ2)) {ρ : Rho} (h : J [] l ρ) :
    Go (forLoop tg body (l.map F) ρ) Q := by
  have key : ∀ (rest done : List β) (ρ : Rho), l = done ++ rest → J done rest ρ → Go (forLoop tg body (rest.map F) ρ) Q := by
    intro rest
    induction rest with
    | nil => intro done ρ e h; rw [List.append_nil] at e; subst e; exact ⟨_, rfl, hend ρ h⟩
    | cons x rest ih =>
      intro done ρ e h
      obtain ⟨ρ1, e1, ⟨o, ρ2⟩, e2, q⟩ := step done x rest ρ e h
      rw [List.map_cons]
      unfold forLoop
      rw [e1]
      simp only
      rw [e2]
      cases o with
      | nx => exact ih (done ++ [x]) ρ2 (by rw [e]; simp) q
      | ct => exact ih (done ++ [x]) ρ2 (by rw [e]; simp) q
      | bk => exact ⟨_, rfl, q⟩
      | rt r => exact ⟨_, rfl, q⟩
  exact key l [] ρ rfl h
/-- a while loop by a measure -/
theorem go_while {I : Nat → Rho → Prop} {c : M}
    (step : ∀ n ρ, I n ρ → ∃ b ρ1, c ρ = some ((.bl b, false), ρ1) ∧ (b = false → Q (.nx, ρ1)) ∧ (b = true → Go (body ρ1) fun x => match x with | (.nx, ρ2) => ∃ m, m < n ∧ I m ρ2 | (.ct, ρ2) => ∃ m, m < n ∧ I m ρ2 | (.bk, ρ2) => Q (.nx, ρ2) | (.rt r, ρ2) => Q (.rt r, ρ2))) :
    ∀ (fuel n : Nat) (ρ : Rho), n < fuel → I n ρ → Go (whileLoop c body fuel ρ) Q
  | 0, n, ρ, hf, _ => absurd hf (Nat.not_lt_zero n)
  | fuel + 1, n, ρ, hf, h => by
    obtain ⟨b, ρ1, e1, hq, hb⟩ := step n ρ h
    unfold whileLoop
    rw [e1]
    cases b with
    | false => exact ⟨_, rfl, hq rfl⟩
    | true =>
      simp only
      obtain ⟨⟨o, ρ2⟩, e2, q⟩ := hb rfl
      rw [e2]
      cases o with
      | nx => obtain ⟨m, hm, q⟩ := q; exact go_while step fuel m ρ2 (by omega) q
      | ct => obtain ⟨m, hm, q⟩ := q; exact go_while step fuel m ρ2 (by omega) q
      | bk => exact ⟨_, rfl, q⟩
      | rt r => exact ⟨_, rfl, q⟩
end
/-! ### comprehensions -/
section
variable {β : Type} {src : SrcM} {tg : Tg} {cnd elt : M} {vs : List Nat} {ρ ρ1 ρw : Rho}
theorem compLoop_map {F : β → T} {turn : Rho → Option (List T × Rho)} {f : β → List T} : ∀ {l : List β}, (∀ x ∈ l, Go (tgM tg (F x) ρw) fun ρa => turn ρa = some (f x, ρw)) → compLoop tg turn (l.map F) ρw = some (l.flatMap f, ρw)
  | [], _ => rfl
  | x :: l, h => by
    obtain ⟨ρa, e1, e2⟩ := h x List.mem_cons_self
    rw [List.map_cons]
    unfold compLoop
    rw [e1]
    simp only
    rw [e2]
    simp only
    rw [compLoop_map fun y hy => h y (List.mem_cons_of_mem _ hy)]
    rfl
theorem compG_map {F : β → T} {turn : Rho → Option (List T × Rho)} {f : β → List T} {l : List β} (h1 : src ρ = some (l.map F, ρ1)) (h2 : wipeR vs ρ1 = some ρw) (h3 : ∀ x ∈ l, Go (tgM tg (F x) ρw) fun ρa => turn ρa = some (f x, ρw)) (hl : (l.flatMap f).length ≤ lim) :
    compG src tg turn vs ρ = some ((.lst (l.flatMap f), true), ρw) := by
  unfold compG
  rw [h1]
  simp only
  rw [h2]
  simp only
  rw [compLoop_map h3]
  simp only
  rw [if_pos hl]
theorem flatMap_if {γ : Type} {p : β → Bool} {G : β → γ} : ∀ {l : List β}, l.flatMap (fun x => if p x = true then [G x] else []) = (l.filter p).map G
  | [] => rfl
  | x :: l => by
    rw [List.flatMap_cons, flatMap_if, List.filter_cons]
    split <;> simp
theorem filter_len_le {p : β → Bool} {l : List β} {n : Nat} (h : l.length ≤ n) : (l.filter p).length ≤ n := Nat.le_trans (List.length_filter_le p l) h
/-- [G x for x in l if p x] -/
theorem comp_map {F G : β → T} {p : β → Bool} {l : List β} (h1 : src ρ = some (l.map F, ρ1)) (h2 : wipeR vs ρ1 = some ρw) (hl : l.length ≤ lim) (h3 : ∀ x ∈ l, Go (tgM tg (F x) ρw) fun ρa => turnM cnd elt vs ρa = some (if p x = true then [G x] else [], ρw)) :
    compM src tg cnd elt vs ρ = some ((.lst ((l.filter p).map G), true), ρw) := by
  have := compG_map (turn := turnM cnd elt vs) h1 h2 h3 (by rw [flatMap_if, List.length_map]; exact filter_len_le hl)
  rw [flatMap_if] at this
  exact this
/-- [G x for x in l] -/
theorem comp_all {F G : β → T} {l : List β} (h1 : src ρ = some (l.map F, ρ1)) (h2 : wipeR vs ρ1 = some ρw) (hl : l.length ≤ lim) (h3 : ∀ x ∈ l, Go (tgM tg (F x) ρw) fun ρa => turnM cnd elt vs ρa = some ([G x], ρw)) :
    compM src tg cnd elt vs ρ = some ((.lst (l.map G), true), ρw) := by
  have := comp_map (p := fun _ => true) (G := G) (cnd := cnd) (elt := elt) h1 h2 hl (by simpa using h3)
  rw [List.filter_eq_self.mpr (fun _ _ => rfl)] at this
  exact this
end
/-! ### texts, pairs, rows of texts as values -/
abbrev tS (l : List Str) : List T := l.map T.str
abbrev pr (e : Str × Str) : T := .tup false [.str e.1, .str e.2]
abbrev tP (l : List (Str × Str)) : List T := l.map pr
theorem dOkL_S {n : Nat} : ∀ {l : List Str}, dOkL n (tS l) = true
  | [] => by cases n <;> rfl
  | x :: l => by
    have := dOkL_S (n := n) (l := l)
    simp only [tS, List.map_cons] at this ⊢
    unfold dOkL
    rw [this]
    cases n <;> rfl
theorem dOkL_P {n : Nat} : ∀ {l : List (Str × Str)}, dOkL (n + 1) (tP l) = true
  | [] => rfl
  | x :: l => by
    have := dOkL_P (n := n) (l := l)
    simp only [tP, List.map_cons] at this ⊢
    unfold dOkL
    rw [this]
    cases n <;> rfl
theorem teq_str {x y : Str} : teq (.str x) (.str y) = decide (x = y) := by
  simp only [teq]
  by_cases h : x = y
  · subst h; simp
  · simp [h]
theorem teqL_S : ∀ {l m : List Str}, teqL (tS l) (tS m) = decide (l = m)
  | [], [] => rfl
  | [], _ :: _ => rfl
  | _ :: _, [] => rfl
  | x :: l, y :: m => by
    have := teqL_S (l := l) (m := m)
    simp only [tS, List.map_cons] at this ⊢
    unfold teqL
    rw [teq_str, this]
    by_cases h : x = y <;> by_cases h2 : l = m <;> simp [h, h2]
theorem teq_pr {a b : Str × Str} : teq (pr a) (pr b) = decide (a = b) := by
  obtain ⟨a1, a2⟩ := a
  obtain ⟨b1, b2⟩ := b
  simp only [pr, teq, teqL, Bool.and_true]
  by_cases h : a1 = b1 <;> by_cases h2 : a2 = b2 <;> simp [h, h2]
theorem tIn_S {x : Str} {l : List Str} : tIn (.str x) (tS l) = decide (x ∈ l) := by
  induction l with
  | nil => rfl
  | cons y l ih =>
    simp only [tIn, tS, List.map_cons, List.any_cons] at ih ⊢
    rw [ih, teq_str]
    by_cases h : y = x
    · subst h; simp
    · have : ¬ x = y := fun e => h e.symm
      by_cases h2 : x ∈ l <;> simp [h, h2, this]
theorem tIn_P {x : Str × Str} {l : List (Str × Str)} : tIn (pr x) (tP l) = decide (x ∈ l) := by
  induction l with
  | nil => rfl
  | cons y l ih =>
    simp only [tIn, tP, List.map_cons, List.any_cons] at ih ⊢
    rw [ih, teq_pr]
    by_cases h : y = x
    · subst h; simp
    · have : ¬ x = y := fun e => h e.symm
      by_cases h2 : x ∈ l <;> simp [h, h2, this]
theorem in_S {neg k : Bool} {x : Str} {l : List Str} : gIn neg [.str x, .tup k (tS l)] = some (.bl (neg ^^ decide (x ∈ l)), false) := by
  simp only [gIn]
  rw [if_pos ⟨rfl, dOkL_S⟩, tIn_S]
theorem in_SL {neg : Bool} {x : Str} {l : List Str} : gIn neg [.str x, .lst (tS l)] = some (.bl (neg ^^ decide (x ∈ l)), false) := by
  simp only [gIn]
  rw [if_pos ⟨rfl, dOkL_S⟩, tIn_S]
theorem in_P {neg k : Bool} {a b : Str} {l : List (Str × Str)} : gIn neg [.tup false [.str a, .str b], .tup k (tP l)] = some (.bl (neg ^^ decide ((a, b) ∈ l)), false) := by
  simp only [gIn]
  rw [if_pos ⟨rfl, dOkL_P⟩]
  have := tIn_P (x := (a, b)) (l := l)
  rw [← this]
theorem in_PL {neg : Bool} {a b : Str} {l : List (Str × Str)} : gIn neg [.tup false [.str a, .str b], .lst (tP l)] = some (.bl (neg ^^ decide ((a, b) ∈ l)), false) := by
  simp only [gIn]
  rw [if_pos ⟨rfl, dOkL_P⟩]
  have := tIn_P (x := (a, b)) (l := l)
  rw [← this]
theorem eq_str {x y : Str} : gEq [.str x, .str y] = some (.bl (decide (x = y)), false) := by
  simp only [gEq]
  rw [if_pos ⟨rfl, rfl⟩, teq_str]
theorem ne_str {x y : Str} : gNe [.str x, .str y] = some (.bl (!decide (x = y)), false) := by
  simp only [gNe]
  rw [if_pos ⟨rfl, rfl⟩, teq_str]
theorem ne_pr {a b : Str × Str} : gNe [pr a, pr b] = some (.bl (!decide (a = b)), false) := by
  simp only [gNe]
  rw [if_pos ⟨rfl, rfl⟩, teq_pr]
theorem in_2 {neg k : Bool} {x a b : Str} : gIn neg [.str x, .tup k [.str a, .str b]] = some (.bl (neg ^^ (decide (x = a) || decide (x = b))), false) := by
  have := in_S (neg := neg) (k := k) (x := x) (l := [a, b])
  simp only [tS, List.map_cons, List.map_nil] at this
  rw [this]
  by_cases h : x = a <;> by_cases h2 : x = b <;> simp [h, h2]
theorem lim_ge {n : Nat} (h : n ≤ 1000000) : n ≤ lim := Nat.le_trans h (by decide)
/-! the machine's own equations, for simp -/
@[simp] def zs_retM_1 := @retM.eq_1
@[simp] def zs_primM_1 := @primM.eq_1
@[simp] def zs_storeM_1 := @storeM.eq_1
@[simp] def zs_varM_1 := @varM.eq_1
@[simp] def zs_letgo_1 := @letgo.eq_1
@[simp] def zs_conM_1 := @conM.eq_1
@[simp] def zs_opsM_1 := @opsM.eq_1
@[simp] def zs_opsM_2 := @opsM.eq_2
@[simp] def zs_opsM_3 := @opsM.eq_3
@[simp] def zs_resolves_1 := @resolves.eq_1
@[simp] def zs_resolves_2 := @resolves.eq_2
@[simp] def zs_resolve_1 := @resolve.eq_1
@[simp] def zs_resolve_2 := @resolve.eq_2
@[simp] def zs_vals_1 := @vals.eq_1
@[simp] def zs_vals_2 := @vals.eq_2
@[simp] def zs_vals_3 := @vals.eq_3
@[simp] def zs_andM_1 := @andM.eq_1
@[simp] def zs_orM_1 := @orM.eq_1
@[simp] def zs_notM_1 := @notM.eq_1
@[simp] def zs_iteM_1 := @iteM.eq_1
@[simp] def zs_nopM_1 := @nopM.eq_1
@[simp] def zs_yesM_1 := @yesM.eq_1
@[simp] def zs_dropM_1 := @dropM.eq_1
@[simp] def zs_asgM_1 := @asgM.eq_1
@[simp] def zs_start0_1 := @start0.eq_1
@[simp] def zs_setM_1 := @setM.eq_1
end Rv
end

section
set_option Elab.async false
set_option autoImplicit false
set_option linter.all false
set_option maxRecDepth 100000
set_option maxHeartbeats 1000000
/-! Rv25: plain: ties, what is reached by them. -/
namespace Rv
open PySem
def nbrs (E : List (Str × Str)) (p : Str) : List Str := (E.filter fun e => decide (p = e.1) || decide (p = e.2)).map fun e => if e.2 = p then e.1 else e.2
def adj (E : List (Str × Str)) (x y : Str) : Prop := (x, y) ∈ E ∨ (y, x) ∈ E
theorem adj.symm {E : List (Str × Str)} {x y : Str} (h : adj E x y) : adj E y x := Or.symm h
theorem mem_nbrs {E : List (Str × Str)} {x y : Str} : y ∈ nbrs E x ↔ adj E x y := by
  unfold nbrs adj
  simp only [List.mem_map, List.mem_filter, Bool.or_eq_true, decide_eq_true_eq]
  constructor
  · rintro ⟨⟨a, b⟩, ⟨h, hx⟩, rfl⟩
    simp only at hx ⊢
    by_cases hb : b = x
    · subst hb; rw [if_pos rfl]; exact .inr h
    · rw [if_neg hb]
      rcases hx with rfl | rfl
      · exact .inl h
      · exact absurd rfl hb
  · rintro (h | h)
    · refine ⟨(x, y), ⟨h, .inl rfl⟩, ?_⟩
      by_cases hb : y = x
      · subst hb; simp
      · simp [hb]
    · exact ⟨(y, x), ⟨h, .inr rfl⟩, by simp⟩
inductive Reach (E : List (Str × Str)) (a : Str) : Str → Prop where
  | refl : Reach E a a
  | step {b c : Str} : Reach E a b → adj E b c → Reach E a c
theorem Reach.trans {E : List (Str × Str)} {a b c : Str} (h : Reach E a b) (k : Reach E b c) : Reach E a c := by
  induction k with
  | refl => exact h
  | step _ e ih => exact ih.step e
theorem Reach.symm {E : List (Str × Str)} {a b : Str} (h : Reach E a b) : Reach E b a := by
  induction h with
  | refl => exact .refl
  | step _ e ih => exact (Reach.refl.step e.symm).trans ih
theorem Reach.mono {E E' : List (Str × Str)} {a b : Str} (h : Reach E a b) (k : ∀ x y, adj E x y → adj E' x y) : Reach E' a b := by
  induction h with
  | refl => exact .refl
  | step _ e ih => exact ih.step (k _ _ e)
/-- all places stand in the list -/
def EdgesIn (E : List (Str × Str)) (P : List Str) : Prop := ∀ e ∈ E, e.1 ∈ P ∧ e.2 ∈ P
theorem EdgesIn.adj {E : List (Str × Str)} {P : List Str} (h : EdgesIn E P) {x y : Str} (k : adj E x y) : x ∈ P ∧ y ∈ P := by
  rcases k with k | k
  · exact h _ k
  · exact ⟨(h _ k).2, (h _ k).1⟩
theorem Reach.inP {E : List (Str × Str)} {P : List Str} (h : EdgesIn E P) {a b : Str} (ha : a ∈ P) (r : Reach E a b) : b ∈ P := by
  cases r with
  | refl => exact ha
  | step _ e => exact (h.adj e).2
/-! ### unlike things in a list -/
theorem nodup_le {α : Type} [DecidableEq α] : ∀ {l m : List α}, l.Nodup → (∀ x ∈ l, x ∈ m) → l.length ≤ m.length
  | [], m, _, _ => Nat.zero_le _
  | x :: l, m, hn, hs => by
    rw [List.nodup_cons] at hn
    have hx := hs x List.mem_cons_self
    have : l.length ≤ (m.erase x).length := nodup_le hn.2 fun y hy => by
      have hne : y ≠ x := fun e => hn.1 (e ▸ hy)
      exact (List.mem_erase_of_ne hne).mpr (hs y (List.mem_cons_of_mem _ hy))
    rw [List.length_erase_of_mem hx] at this
    have : 0 < m.length := List.length_pos_of_mem hx
    simp only [List.length_cons]
    omega
theorem nodup_all {α : Type} [DecidableEq α] {l m : List α} (hl : l.Nodup) (hm : m.Nodup) (hs : ∀ x ∈ l, x ∈ m) : l.length = m.length ↔ ∀ x ∈ m, x ∈ l := by
  constructor
  · intro e x hx
    by_cases h : x ∈ l
    · exact h
    · exfalso
      have := nodup_le (l := x :: l) (m := m) (List.nodup_cons.mpr ⟨h, hl⟩) fun y hy => by
        rcases List.mem_cons.mp hy with rfl | hy
        · exact hx
        · exact hs y hy
      simp only [List.length_cons] at this
      omega
  · intro h
    exact Nat.le_antisymm (nodup_le hl hs) (nodup_le hm h)
/-! ### the search -/
/-- found F, in line L -/
structure HI (E : List (Str × Str)) (P : List Str) (p0 : Str) (F L : List Str) : Prop where
  first : p0 ∈ F
  line : ∀ x ∈ L, x ∈ F
  nd : F.Nodup
  inP : ∀ x ∈ F, x ∈ P
  reach : ∀ x ∈ F, Reach E p0 x
  shut : ∀ x ∈ F, x ∉ L → ∀ y, adj E x y → y ∈ F
/-- while x's neighbours are looked at -/
structure HJ (E : List (Str × Str)) (P : List Str) (p0 x : Str) (done F L : List Str) : Prop where
  first : p0 ∈ F
  line : ∀ x ∈ L, x ∈ F
  nd : F.Nodup
  inP : ∀ x ∈ F, x ∈ P
  reach : ∀ x ∈ F, Reach E p0 x
  shut : ∀ z ∈ F, z ∉ L → z ≠ x → ∀ y, adj E z y → y ∈ F
  xin : x ∈ F
  done : ∀ y ∈ done, y ∈ F
variable {E : List (Str × Str)} {P : List Str} {p0 x y : Str} {done F L : List Str}
theorem HI.start (h : p0 ∈ P) : HI E P p0 [p0] [p0] where
  first := List.mem_singleton.mpr rfl
  line := fun x hx => hx
  nd := by simp
  inP := fun x hx => by rw [List.mem_singleton.mp hx]; exact h
  reach := fun x hx => by rw [List.mem_singleton.mp hx]; exact .refl
  shut := fun x hx n => absurd hx n
theorem HI.pop (h : HI E P p0 F (L ++ [x])) : HJ E P p0 x [] F L where
  first := h.first
  line := fun y hy => h.line y (List.mem_append_left _ hy)
  nd := h.nd
  inP := h.inP
  reach := h.reach
  shut := fun z hz nz ne y e => h.shut z hz (fun q => by
    rcases List.mem_append.mp q with q | q
    · exact nz q
    · exact ne (List.mem_singleton.mp q)) y e
  xin := h.line x (List.mem_append_right _ (List.mem_singleton.mpr rfl))
  done := fun y hy => nomatch hy
theorem HJ.old (h : HJ E P p0 x done F L) (hy : y ∈ F) : HJ E P p0 x (done ++ [y]) F L :=
  { h with done := fun z hz => (List.mem_append.mp hz).elim (h.done z) fun q => by rw [List.mem_singleton.mp q]; exact hy }
theorem HJ.new (h : HJ E P p0 x done F L) (hy : y ∉ F) (he : adj E x y) (hP : EdgesIn E P) : HJ E P p0 x (done ++ [y]) (F ++ [y]) (L ++ [y]) where
  first := List.mem_append_left _ h.first
  line := fun z hz => (List.mem_append.mp hz).elim (fun q => List.mem_append_left _ (h.line z q)) fun q => List.mem_append_right _ q
  nd := by
    rw [List.nodup_append]
    exact ⟨h.nd, by simp, fun a ha b hb e => hy (by rw [List.mem_singleton.mp hb] at e; exact e ▸ ha)⟩
  inP := fun z hz => (List.mem_append.mp hz).elim (h.inP z) fun q => by rw [List.mem_singleton.mp q]; exact (hP.adj he).2
  reach := fun z hz => (List.mem_append.mp hz).elim (h.reach z) fun q => by rw [List.mem_singleton.mp q]; exact (h.reach x h.xin).step he
  shut := fun z hz nz ne w e => by
    rcases List.mem_append.mp hz with q | q
    · exact List.mem_append_left _ (h.shut z q (fun k => nz (List.mem_append_left _ k)) ne w e)
    · exact absurd (List.mem_append_right _ q) nz
  xin := List.mem_append_left _ h.xin
  done := fun z hz => (List.mem_append.mp hz).elim (fun q => List.mem_append_left _ (h.done z q)) fun q => List.mem_append_right _ q
theorem HJ.shutAll (h : HJ E P p0 x (nbrs E x) F L) : HI E P p0 F L where
  first := h.first
  line := h.line
  nd := h.nd
  inP := h.inP
  reach := h.reach
  shut := fun z hz nz y e => by
    by_cases q : z = x
    · subst q; exact h.done y (mem_nbrs.mpr e)
    · exact h.shut z hz nz q y e
theorem HI.end (h : HI E P p0 F []) (hn : P.Nodup) : F.length = P.length ↔ ∀ y ∈ P, Reach E p0 y := by
  rw [nodup_all h.nd hn h.inP]
  constructor
  · exact fun k y hy => h.reach y (k y hy)
  · intro k y hy
    have : ∀ z, Reach E p0 z → z ∈ F := by
      intro z r
      induction r with
      | refl => exact h.first
      | step _ e ih => exact h.shut _ ih (List.not_mem_nil) _ e
    exact this y (k y hy)
end Rv
end

section
set_option Elab.async false
set_option autoImplicit false
set_option linter.all false
set_option maxRecDepth 100000
set_option maxHeartbeats 1000000
/-! Rv26: plain: ways without a place twice. -/
namespace Rv
open PySem
/-- a way w from a to y -/
inductive Path (E : List (Str × Str)) (a : Str) : List Str → Str → Prop where
  | one : Path E a [a] a
  | snoc {w : List Str} {x y : Str} : Path E a w x → adj E x y → y ∉ w → Path E a (w ++ [y]) y
variable {E : List (Str × Str)} {P : List Str} {a b x y : Str} {w : List Str}
theorem Path.ne (h : Path E a w x) : w ≠ [] := by cases h <;> simp
theorem Path.mem_end (h : Path E a w x) : x ∈ w := by cases h <;> simp
theorem Path.mem_first (h : Path E a w x) : a ∈ w := by
  induction h with
  | one => simp
  | snoc _ _ _ ih => exact List.mem_append_left _ ih
theorem Path.last (h : Path E a w x) : w.getLast? = some x := by cases h <;> simp
theorem Path.head (h : Path E a w x) : w.head? = some a := by
  induction h with
  | one => rfl
  | snoc h _ _ ih => rw [List.head?_append, ih]; rfl
theorem Path.nodup (h : Path E a w x) : w.Nodup := by
  induction h with
  | one => simp
  | snoc _ _ n ih =>
    rw [List.nodup_append]
    exact ⟨ih, by simp, fun c hc d hd e => n (by rw [List.mem_singleton.mp hd] at e; exact e ▸ hc)⟩
theorem Path.inP (h : Path E a w x) (hE : EdgesIn E P) (ha : a ∈ P) : ∀ z ∈ w, z ∈ P := by
  induction h with
  | one => intro z hz; rw [List.mem_singleton.mp hz]; exact ha
  | snoc _ e _ ih =>
    intro z hz
    rcases List.mem_append.mp hz with q | q
    · exact ih z q
    · rw [List.mem_singleton.mp q]; exact (hE.adj e).2
theorem Path.len (h : Path E a w x) (hE : EdgesIn E P) (ha : a ∈ P) : w.length ≤ P.length := nodup_le h.nodup (h.inP hE ha)
theorem Path.len_pos (h : Path E a w x) : 0 < w.length := List.length_pos_iff.mpr h.ne
theorem Path.reach (h : Path E a w x) : Reach E a x := by
  induction h with
  | one => exact .refl
  | snoc _ e _ ih => exact ih.step e
theorem Path.reach_all (h : Path E a w x) : ∀ z ∈ w, Reach E a z := by
  induction h with
  | one => intro z hz; rw [List.mem_singleton.mp hz]; exact .refl
  | snoc h e _ ih =>
    intro z hz
    rcases List.mem_append.mp hz with q | q
    · exact ih z q
    · rw [List.mem_singleton.mp q]; exact h.reach.step e
/-- up to any of its places -/
theorem Path.upto (h : Path E a w x) : ∀ z ∈ w, ∃ v, Path E a v z := by
  induction h with
  | one => intro z hz; rw [List.mem_singleton.mp hz]; exact ⟨_, .one⟩
  | snoc h e n ih =>
    intro z hz
    rcases List.mem_append.mp hz with q | q
    · exact ih z q
    · rw [List.mem_singleton.mp q]; exact ⟨_, h.snoc e n⟩
theorem Reach.path (h : Reach E a x) : ∃ w, Path E a w x := by
  induction h with
  | refl => exact ⟨_, .one⟩
  | @step b c _ e ih =>
    obtain ⟨w, p⟩ := ih
    by_cases hc : c ∈ w
    · exact p.upto c hc
    · exact ⟨_, p.snoc e hc⟩
/-- a way of n + 2 places is one of n + 1, a step on -/
theorem Path.cases_snoc {n : Nat} (h : Path E a w y) (hl : w.length = n + 2) : ∃ v x, w = v ++ [y] ∧ Path E a v x ∧ adj E x y ∧ y ∉ v ∧ v.length = n + 1 := by
  cases h with
  | one => simp at hl
  | snoc h e n' => exact ⟨_, _, rfl, h, e, n', by simpa using hl⟩
theorem Path.not_inner (h : Path E a w y) : y ∉ w.dropLast := by
  cases h with
  | one => simp
  | snoc _ _ n => simpa using n
/-! ### the law's search, level by level -/
def lnbrs (P : List Str) (E : List (Str × Str)) (p : Str) : List Str := P.filter fun x => decide ((p, x) ∈ E) || decide ((x, p) ∈ E)
theorem mem_lnbrs (hE : EdgesIn E P) : y ∈ lnbrs P E x ↔ adj E x y := by
  unfold lnbrs adj
  simp only [List.mem_filter, Bool.or_eq_true, decide_eq_true_eq]
  exact ⟨fun h => h.2, fun h => ⟨(hE.adj h).2, h⟩⟩
def lastOf (w : List Str) : Str := w.getLast?.getD default
theorem Path.lastOf (h : Path E a w x) : lastOf w = x := by unfold Rv.lastOf; rw [h.last]; rfl
def onward (P : List Str) (E : List (Str × Str)) (w : List Str) : List (List Str) := ((lnbrs P E (lastOf w)).filter fun x => !decide (x ∈ w)).map fun x => w ++ [x]
def atEnd (b : Str) (w : List Str) : Bool := decide (lastOf w = b)
def level (P : List Str) (E : List (Str × Str)) (b : Str) (edge : List (List Str)) : List (List Str) := (edge.filter fun w => !atEnd b w).flatMap (onward P E)
/-- after k levels -/
structure LI (P : List Str) (E : List (Str × Str)) (a b : Str) (k : Nat) (found edge : List (List Str)) : Prop where
  edge1 : ∀ w ∈ edge, ∃ x, Path E a w x ∧ w.length = k + 1
  found1 : ∀ w ∈ found, Path E a w b
  edge2 : ∀ w x, Path E a w x → w.length = k + 1 → b ∉ w.dropLast → w ∈ edge
  found2 : ∀ w, Path E a w b → w.length ≤ k → w ∈ found
  small : edge.length ≤ 6 ^ k
  smallF : found.length ≤ k * 6 ^ 7
theorem LI.start : LI P E a b 0 [] [[a]] where
  edge1 := fun w hw => by rw [List.mem_singleton.mp hw]; exact ⟨a, .one, rfl⟩
  found1 := fun w hw => nomatch hw
  edge2 := fun w x h hl _ => by
    cases h with
    | one => simp
    | snoc h _ _ => have := h.len_pos; simp only [List.length_append, List.length_cons, List.length_nil] at hl; omega
  found2 := fun w h hl => by have := h.len_pos; omega
  small := by simp
  smallF := by simp
theorem LI.lt {k : Nat} {found edge : List (List Str)} (h : LI P E a b k found edge) (hE : EdgesIn E P) (ha : a ∈ P) (hn : edge ≠ []) : k + 1 ≤ P.length := by
  obtain ⟨w, edge', rfl⟩ := List.exists_cons_of_ne_nil hn
  obtain ⟨x, p, hl⟩ := h.edge1 w List.mem_cons_self
  rw [← hl]
  exact p.len hE ha
theorem flatMap_len {α β : Type} {f : α → List β} {n : Nat} : ∀ {l : List α}, (∀ x ∈ l, (f x).length ≤ n) → (l.flatMap f).length ≤ l.length * n
  | [], _ => by simp
  | x :: l, h => by
    rw [List.flatMap_cons, List.length_append, List.length_cons, Nat.succ_mul]
    have h1 := h x List.mem_cons_self
    have h2 := flatMap_len fun y hy => h y (List.mem_cons_of_mem x hy)
    omega
theorem onward_len (hP : P.length ≤ 6) : (onward P E w).length ≤ 6 := by
  unfold onward lnbrs
  rw [List.length_map]
  exact Nat.le_trans (List.length_filter_le _ _) (Nat.le_trans (List.length_filter_le _ _) hP)
theorem LI.next {k : Nat} {found edge : List (List Str)} (h : LI P E a b k found edge) (hE : EdgesIn E P) (hP : P.length ≤ 6) (hk : k ≤ 6) : LI P E a b (k + 1) (found ++ edge.filter (atEnd b)) (level P E b edge) where
  edge1 := fun w hw => by
    obtain ⟨v, hv, hw⟩ := List.mem_flatMap.mp hw
    obtain ⟨hv, _⟩ := List.mem_filter.mp hv
    obtain ⟨x, p, hl⟩ := h.edge1 v hv
    unfold onward at hw
    obtain ⟨y, hy, rfl⟩ := List.mem_map.mp hw
    obtain ⟨h1, h2⟩ := List.mem_filter.mp hy
    rw [p.lastOf] at h1
    exact ⟨y, p.snoc ((mem_lnbrs hE).mp h1) (by simpa using h2), by simp [hl]⟩
  found1 := fun w hw => by
    rcases List.mem_append.mp hw with q | q
    · exact h.found1 w q
    · obtain ⟨q1, q2⟩ := List.mem_filter.mp q
      obtain ⟨x, p, _⟩ := h.edge1 w q1
      have e : x = b := by simpa [atEnd, p.lastOf] using q2
      exact e ▸ p
  edge2 := fun w y p hl hb => by
    obtain ⟨v, x, rfl, q, e, n, hv⟩ := p.cases_snoc hl
    have hb' : b ∉ v := by simpa using hb
    have hx : x ≠ b := fun z => hb' (z ▸ q.mem_end)
    refine List.mem_flatMap.mpr ⟨v, List.mem_filter.mpr ⟨h.edge2 v x q hv fun z => hb' (List.dropLast_subset v z), by simp [atEnd, q.lastOf, hx]⟩, ?_⟩
    unfold onward
    refine List.mem_map.mpr ⟨y, List.mem_filter.mpr ⟨?_, by simpa using n⟩, rfl⟩
    rw [q.lastOf]
    exact (mem_lnbrs hE).mpr e
  found2 := fun w p hl => by
    by_cases q : w.length ≤ k
    · exact List.mem_append_left _ (h.found2 w p q)
    · exact List.mem_append_right _ (List.mem_filter.mpr ⟨h.edge2 w b p (by omega) p.not_inner, by simp [atEnd, p.lastOf]⟩)
  small := by
    unfold level
    refine Nat.le_trans (flatMap_len (n := 6) fun w _ => onward_len hP) ?_
    rw [Nat.pow_succ]
    exact Nat.mul_le_mul_right _ (Nat.le_trans (List.length_filter_le _ _) h.small)
  smallF := by
    rw [List.length_append, Nat.succ_mul]
    have h1 := List.length_filter_le (atEnd b) edge
    have h2 := h.small
    have h3 : 6 ^ k ≤ 6 ^ 7 := Nat.pow_le_pow_right (by decide) (by omega)
    have h4 := h.smallF
    omega
theorem LI.end {k : Nat} {found : List (List Str)} (h : LI P E a b k found []) : ∀ w, w ∈ found ↔ Path E a w b := by
  intro w
  refine ⟨h.found1 w, fun p => ?_⟩
  by_cases q : w.length ≤ k
  · exact h.found2 w p q
  · exfalso
    -- a way's first k + 1 places
    have key : ∀ (n : Nat) (w : List Str) (x : Str), Path E a w x → w.length = k + 1 + n → b ∉ w.dropLast → False := by
      intro n
      induction n with
      | zero => intro w x p hl hb; exact absurd (h.edge2 w x p hl hb) (List.not_mem_nil)
      | succ n ih =>
        intro w x p hl hb
        obtain ⟨v, y, rfl, q, e, m, hv⟩ := p.cases_snoc (n := k + n) (by omega)
        have hb' : b ∉ v := by simpa using hb
        exact ih v y q (by omega) fun z => hb' (List.dropLast_subset v z)
    exact key (w.length - (k + 1)) w b p (by omega) p.not_inner
end Rv
end

section
set_option Elab.async false
set_option autoImplicit false
set_option linter.all false
set_option maxRecDepth 100000
set_option maxHeartbeats 1000000
/-! Rv27: plain: needed ties and cut places. -/
namespace Rv
open PySem
open Classical in
noncomputable def hangB (P : List Str) (E : List (Str × Str)) : Bool := decide (∀ x ∈ P, ∀ y ∈ P, Reach E x y)
open Classical in
theorem hang_iff {P : List Str} {E : List (Str × Str)} : hangB P E = true ↔ ∀ x ∈ P, ∀ y ∈ P, Reach E x y := by
  unfold hangB
  exact decide_eq_true_iff
def without (E : List (Str × Str)) (e : Str × Str) : List (Str × Str) := E.filter fun x => !decide (x = e)
def apart (E : List (Str × Str)) (p : Str) : List (Str × Str) := E.filter fun x => !(decide (p = x.1) || decide (p = x.2))
def others (P : List Str) (p : Str) : List Str := P.filter fun x => !decide (x = p)
noncomputable def cutB (P : List Str) (E : List (Str × Str)) (p : Str) : Bool := !hangB (others P p) (apart E p)
section
variable {E : List (Str × Str)} {P : List Str} {a b u v x y z p q : Str} {w : List Str} {e : Str × Str}
theorem mem_others : x ∈ others P p ↔ x ∈ P ∧ x ≠ p := by
  unfold others
  simp
theorem adj_apart : adj (apart E p) x y ↔ adj E x y ∧ x ≠ p ∧ y ≠ p := by
  unfold adj apart
  simp only [List.mem_filter, Bool.not_eq_true', Bool.or_eq_false_iff, decide_eq_false_iff_not]
  constructor
  · rintro (⟨h, h1, h2⟩ | ⟨h, h1, h2⟩)
    · exact ⟨.inl h, fun z => h1 z.symm, fun z => h2 z.symm⟩
    · exact ⟨.inr h, fun z => h2 z.symm, fun z => h1 z.symm⟩
  · rintro ⟨h | h, h1, h2⟩
    · exact .inl ⟨h, fun z => h1 z.symm, fun z => h2 z.symm⟩
    · exact .inr ⟨h, fun z => h2 z.symm, fun z => h1 z.symm⟩
theorem adj_without : adj E x y → adj (without E e) x y ∨ (x = e.1 ∧ y = e.2) ∨ (x = e.2 ∧ y = e.1) := by
  unfold adj without
  simp only [List.mem_filter, Bool.not_eq_true', decide_eq_false_iff_not]
  rintro (h | h)
  · by_cases q : (x, y) = e
    · rw [← q]; exact .inr (.inl ⟨rfl, rfl⟩)
    · exact .inl (.inl ⟨h, q⟩)
  · by_cases q : (y, x) = e
    · rw [← q]; exact .inr (.inr ⟨rfl, rfl⟩)
    · exact .inl (.inr ⟨h, q⟩)
theorem without_adj (h : adj (without E e) x y) : adj E x y :=
  h.elim (fun z => .inl (List.mem_filter.mp z).1) fun z => .inr (List.mem_filter.mp z).1
theorem reach_without (r : Reach (without E e) e.1 e.2) (h : Reach E x y) : Reach (without E e) x y := by
  induction h with
  | refl => exact .refl
  | step _ k ih =>
    rcases adj_without (e := e) k with k | ⟨rfl, rfl⟩ | ⟨rfl, rfl⟩
    · exact ih.step k
    · exact ih.trans r
    · exact ih.trans r.symm
/-- a tie whose loss parts the web parts its own ends -/
theorem needed_parts (hc : ∀ x ∈ P, ∀ y ∈ P, Reach E x y) (hn : hangB P (without E e) = false) : ¬ Reach (without E e) e.1 e.2 := by
  intro r
  have : hangB P (without E e) = true := hang_iff.mpr fun x hx y hy => reach_without r (hc x hx y hy)
  rw [hn] at this
  cases this
/-- one end x of a needed tie, o the other: x has another neighbour iff it is a cut place -/
theorem end_cut {o : Str} (hE : EdgesIn E P) (hP : P.Nodup) (hirr : ∀ z, ¬ adj E z z) (hc : ∀ x ∈ P, ∀ y ∈ P, Reach E x y) (hxo : adj E x o) (he : (x = e.1 ∧ o = e.2) ∨ (x = e.2 ∧ o = e.1)) (hn : ¬ Reach (without E e) x o) :
    1 < (lnbrs P E x).length ↔ cutB P E x = true := by
  have hx := (hE.adj hxo).1
  have ho := (hE.adj hxo).2
  have hne : o ≠ x := fun z => hirr x (z ▸ hxo)
  have hnd : (lnbrs P E x).Nodup := hP.filter _
  have hmo : o ∈ lnbrs P E x := (mem_lnbrs hE).mpr hxo
  constructor
  · intro h
    obtain ⟨c, hcm, hco⟩ : ∃ c, c ∈ lnbrs P E x ∧ c ≠ o := by
      apply Classical.byContradiction
      intro k
      have : (lnbrs P E x).length ≤ [o].length := nodup_le hnd fun z hz => by
        by_cases q : z = o
        · exact List.mem_singleton.mpr q
        · exact absurd ⟨z, hz, q⟩ k
      simp at this
      omega
    have hxc : adj E x c := (mem_lnbrs hE).mp hcm
    have hcx : c ≠ x := fun z => hirr x (z ▸ hxc)
    unfold cutB
    rw [Bool.not_eq_true', ← Bool.not_eq_true, hang_iff]
    intro k
    have r := k c (mem_others.mpr ⟨(hE.adj hxc).2, hcx⟩) o (mem_others.mpr ⟨ho, hne⟩)
    have step : ∀ {s t : Str}, adj (apart E x) s t → adj (without E e) s t := by
      intro s t h
      obtain ⟨h1, h2, h3⟩ := adj_apart.mp h
      rcases adj_without (e := e) h1 with h4 | ⟨h4, h5⟩ | ⟨h4, h5⟩
      · exact h4
      · rcases he with ⟨e1, _⟩ | ⟨e1, _⟩
        · exact absurd (h4.trans e1.symm) h2
        · exact absurd (h5.trans e1.symm) h3
      · rcases he with ⟨e1, _⟩ | ⟨e1, _⟩
        · exact absurd (h5.trans e1.symm) h3
        · exact absurd (h4.trans e1.symm) h2
    have r2 : Reach (without E e) c o := r.mono fun _ _ h => step h
    have xc : adj (without E e) x c := by
      rcases adj_without (e := e) hxc with h4 | ⟨h4, h5⟩ | ⟨h4, h5⟩
      · exact h4
      · rcases he with ⟨e1, e2⟩ | ⟨e1, e2⟩
        · exact absurd (h5.trans e2.symm) hco
        · exact absurd (h5.trans e1.symm) hcx
      · rcases he with ⟨e1, e2⟩ | ⟨e1, e2⟩
        · exact absurd (h5.trans e1.symm) hcx
        · exact absurd (h5.trans e2.symm) hco
    exact hn ((Reach.refl.step xc).trans r2)
  · intro h
    apply Classical.byContradiction
    intro k
    have only : ∀ y, adj E x y → y = o := by
      intro y hy
      apply Classical.byContradiction
      intro q
      have := nodup_le (l := [y, o]) (m := lnbrs P E x) (by simp [q]) (by
        intro z hz
        rcases List.mem_cons.mp hz with rfl | hz
        · exact (mem_lnbrs hE).mpr hy
        · rw [List.mem_singleton.mp hz]; exact hmo)
      simp at this
      omega
    unfold cutB at h
    rw [Bool.not_eq_true', ← Bool.not_eq_true, hang_iff] at h
    apply h
    intro u hu v hv
    obtain ⟨hu1, hu2⟩ := mem_others.mp hu
    obtain ⟨hv1, hv2⟩ := mem_others.mp hv
    have key : ∀ z, Reach E u z → (z ≠ x → Reach (apart E x) u z) ∧ (z = x → Reach (apart E x) u o) := by
      intro z r
      induction r with
      | refl => exact ⟨fun _ => .refl, fun q => absurd q hu2⟩
      | @step b c _ kk ih =>
        constructor
        · intro hcx
          by_cases hb : b = x
          · subst hb
            rw [only c kk]
            exact ih.2 rfl
          · exact (ih.1 hb).step (adj_apart.mpr ⟨kk, hb, hcx⟩)
        · intro hcx
          subst hcx
          have hb : b ≠ c := fun q => hirr c (q ▸ kk)
          rw [← only b kk.symm]
          exact ih.1 hb
    exact (key v (hc u hu1 v hv1)).1 hv2
/-! ### two cut places -/
theorem far_from (h : cutB P E u = true) : ∃ p ∈ others P u, ¬ Reach (apart E u) p v := by
  unfold cutB at h
  rw [Bool.not_eq_true', ← Bool.not_eq_true, hang_iff] at h
  apply Classical.byContradiction
  intro k
  apply h
  intro x hx y hy
  have h1 : Reach (apart E u) x v := Classical.byContradiction fun z => k ⟨x, hx, z⟩
  have h2 : Reach (apart E u) y v := Classical.byContradiction fun z => k ⟨y, hy, z⟩
  exact h1.trans h2.symm
theorem near_own (hpu : p ≠ u) (hpv : p ≠ v) (huv : u ≠ v) (hf : ¬ Reach (apart E u) p v) (r : Reach E p u) : Reach (apart E v) p u := by
  have key : ∀ z, Reach E p z → Reach (apart E v) p u ∨ (z ≠ v ∧ z ≠ u ∧ Reach (apart E u) p z ∧ Reach (apart E v) p z) := by
    intro z r
    induction r with
    | refl => exact .inr ⟨hpv, hpu, .refl, .refl⟩
    | @step b c _ k ih =>
      rcases ih with ih | ⟨b1, b2, b3, b4⟩
      · exact .inl ih
      · by_cases hcu : c = u
        · subst hcu
          exact .inl (b4.step (adj_apart.mpr ⟨k, b1, huv⟩))
        · by_cases hcv : c = v
          · subst hcv
            exact absurd (b3.step (adj_apart.mpr ⟨k, b2, fun z => huv z.symm⟩)) hf
          · exact .inr ⟨hcv, hcu, b3.step (adj_apart.mpr ⟨k, b2, hcu⟩), b4.step (adj_apart.mpr ⟨k, b1, hcv⟩)⟩
  rcases key u r with h | ⟨_, h, _⟩
  · exact h
  · exact absurd rfl h
theorem Path.avoid (h : Path E a w x) (hv : v ∉ w) : Reach (apart E v) a x := by
  induction h with
  | one => exact .refl
  | snoc h e _ ih =>
    rw [List.mem_append, List.mem_singleton] at hv
    have h1 : v ∉ _ := fun z => hv (.inl z)
    refine (ih h1).step (adj_apart.mpr ⟨e, fun z => h1 (z ▸ h.mem_end), fun z => hv (.inr z.symm)⟩)
/-- two places, all ways between them through both cut places -/
theorem two_cuts (hc : ∀ x ∈ P, ∀ y ∈ P, Reach E x y) (hu : u ∈ P) (hv : v ∈ P) (huv : u ≠ v) (cu : cutB P E u = true) (cv : cutB P E v = true) :
    ∃ p ∈ P, ∃ q ∈ P, p ≠ q ∧ u ≠ p ∧ u ≠ q ∧ v ≠ p ∧ v ≠ q ∧ ∀ w, (Path E p w q ∨ Path E q w p) → u ∈ w ∧ v ∈ w := by
  obtain ⟨p, hp, fp⟩ := far_from (v := v) cu
  obtain ⟨q, hq, fq⟩ := far_from (v := u) cv
  obtain ⟨hp1, hp2⟩ := mem_others.mp hp
  obtain ⟨hq1, hq2⟩ := mem_others.mp hq
  have hp3 : p ≠ v := fun z => fp (z ▸ .refl)
  have hq3 : q ≠ u := fun z => fq (z ▸ .refl)
  have np := near_own hp2 hp3 huv fp (hc p hp1 u hu)
  have nq := near_own hq2 hq3 (fun z => huv z.symm) fq (hc q hq1 v hv)
  have k1 : ∀ w : List Str, ¬ Reach (apart E v) p q := fun _ r => fq (r.symm.trans np)
  have k2 : ∀ w : List Str, ¬ Reach (apart E u) p q := fun _ r => fp (r.trans nq)
  refine ⟨p, hp1, q, hq1, ?_, fun z => hp2 z.symm, fun z => hq3 z.symm, fun z => hp3 z.symm, fun z => hq2 z.symm, ?_⟩
  · rintro rfl
    exact fq np
  · rintro w (h | h)
    · exact ⟨Classical.byContradiction fun z => k2 w (h.avoid z), Classical.byContradiction fun z => k1 w (h.avoid z)⟩
    · exact ⟨Classical.byContradiction fun z => k2 w (h.avoid z).symm, Classical.byContradiction fun z => k1 w (h.avoid z).symm⟩
end
end Rv
end

section
set_option Elab.async false
set_option autoImplicit false
set_option linter.all false
set_option maxRecDepth 100000
set_option maxHeartbeats 1000000
/-! Rv28: plain: the search of ways by a stack. -/
namespace Rv
open PySem
def step1 (E : List (Str × Str)) (w : List Str) : List (List Str) := ((nbrs E (lastOf w)).filter fun x => !decide (x ∈ w)).map fun x => w ++ [x]
/-- found so far, in line -/
structure WI (E : List (Str × Str)) (a b : Str) (found line : List (List Str)) : Prop where
  line1 : ∀ w ∈ line, ∃ x, Path E a w x
  found1 : ∀ w ∈ found, Path E a w b
  all : ∀ w, Path E a w b → w ∈ found ∨ ∃ v ∈ line, v <+: w
variable {E : List (Str × Str)} {a b x : Str} {w : List Str} {found line : List (List Str)}
theorem Path.pre_one (h : Path E a w x) : [a] <+: w := by
  induction h with
  | one => exact List.prefix_refl _
  | snoc _ _ _ ih => exact ih.trans (List.prefix_append _ _)
theorem WI.start : WI E a b [] [[a]] where
  line1 := fun w hw => by rw [List.mem_singleton.mp hw]; exact ⟨a, .one⟩
  found1 := fun w hw => nomatch hw
  all := fun w h => .inr ⟨[a], List.mem_singleton.mpr rfl, h.pre_one⟩
theorem Path.next {v : List Str} (h : Path E a w x) (hv : v ≠ []) (hp : v <+: w) : v = w ∨ ∃ y, (v ++ [y]) <+: w ∧ adj E (Rv.lastOf v) y ∧ y ∉ v := by
  induction h with
  | one =>
    obtain ⟨t, ht⟩ := hp
    obtain ⟨c, v', rfl⟩ := List.exists_cons_of_ne_nil hv
    rw [List.cons_append] at ht
    injection ht with h1 h2
    rw [List.append_eq_nil_iff] at h2
    exact .inl (by rw [h1, h2.1])
  | @snoc w0 z y h e n ih =>
    rcases List.prefix_concat_iff.mp hp with q | q
    · exact .inl q
    · rcases ih q with k | ⟨y', k1, k2, k3⟩
      · subst k
        exact .inr ⟨y, List.prefix_refl _, by rw [h.lastOf]; exact e, n⟩
      · exact .inr ⟨y', k1.trans (List.prefix_append _ _), k2, k3⟩
theorem WI.hit {v : List Str} (h : WI E a b found (line ++ [v])) (hv : Path E a v b) : WI E a b (found ++ [v]) line where
  line1 := fun w hw => h.line1 w (List.mem_append_left _ hw)
  found1 := fun w hw => (List.mem_append.mp hw).elim (h.found1 w) fun q => by rw [List.mem_singleton.mp q]; exact hv
  all := fun w hw => by
    rcases h.all w hw with q | ⟨u, hu, hp⟩
    · exact .inl (List.mem_append_left _ q)
    · rcases List.mem_append.mp hu with q | q
      · exact .inr ⟨u, q, hp⟩
      · rw [List.mem_singleton.mp q] at hp
        rcases hw.next hv.ne hp with k | ⟨y, k1, k2, k3⟩
        · exact .inl (List.mem_append_right _ (by rw [k]; simp))
        · exfalso
          obtain ⟨t, rfl⟩ := k1
          have nd := hw.nodup
          have hl := hw.last
          rw [List.append_assoc, List.nodup_append] at nd
          rw [List.append_assoc, List.getLast?_append] at hl
          have hne : [y] ++ t ≠ [] := by simp
          have h2 : ([y] ++ t).getLast? = some (([y] ++ t).getLast hne) := List.getLast?_eq_getLast hne
          rw [h2, Option.some_or] at hl
          cases hl
          exact nd.2.2 _ hv.mem_end _ (List.getLast_mem hne) rfl
theorem WI.miss {v : List Str} {x : Str} (h : WI E a b found (line ++ [v])) (hv : Path E a v x) (hx : x ≠ b) : WI E a b found (line ++ step1 E v) where
  line1 := fun w hw => (List.mem_append.mp hw).elim (fun q => h.line1 w (List.mem_append_left _ q)) fun q => by
    unfold step1 at q
    obtain ⟨y, hy, rfl⟩ := List.mem_map.mp q
    obtain ⟨h1, h2⟩ := List.mem_filter.mp hy
    rw [hv.lastOf] at h1
    exact ⟨y, hv.snoc (mem_nbrs.mp h1) (by simpa using h2)⟩
  found1 := h.found1
  all := fun w hw => by
    rcases h.all w hw with q | ⟨u, hu, hp⟩
    · exact .inl q
    · rcases List.mem_append.mp hu with q | q
      · exact .inr ⟨u, List.mem_append_left _ q, hp⟩
      · rw [List.mem_singleton.mp q] at hp
        rcases hw.next hv.ne hp with k | ⟨y, k1, k2, k3⟩
        · subst k
          have e1 := hv.last
          rw [hw.last] at e1
          cases e1
          exact absurd rfl hx
        · refine .inr ⟨v ++ [y], List.mem_append_right _ ?_, k1⟩
          unfold step1
          exact List.mem_map.mpr ⟨y, List.mem_filter.mpr ⟨mem_nbrs.mpr k2, by simpa using k3⟩, rfl⟩
theorem nbrs_nd (hn : E.Nodup) (ha : ∀ e ∈ E, (e.2, e.1) ∉ E) : (nbrs E x).Nodup := by
  unfold nbrs
  rw [List.nodup_iff_pairwise_ne, List.pairwise_map]
  refine List.Pairwise.imp_of_mem ?_ (List.nodup_iff_pairwise_ne.mp (hn.filter _))
  rintro ⟨p, q⟩ ⟨r, s⟩ h1 h2 hne e
  obtain ⟨m1, k1⟩ := List.mem_filter.mp h1
  obtain ⟨m2, k2⟩ := List.mem_filter.mp h2
  simp only [Bool.or_eq_true, decide_eq_true_eq] at k1 k2
  simp only at e
  apply hne
  by_cases a1 : q = x <;> by_cases a2 : s = x
  · rw [if_pos a1, if_pos a2] at e
    rw [e, a1, a2]
  · rw [if_pos a1, if_neg a2] at e
    rcases k2 with k2 | k2
    · have : (q, p) = (r, s) := by rw [e, a1, k2]
      exact absurd (this ▸ m2) (ha _ m1)
    · exact absurd k2.symm a2
  · rw [if_neg a1, if_pos a2] at e
    rcases k1 with k1 | k1
    · have : (q, p) = (r, s) := by rw [e, ← k1, a2]
      exact absurd (this ▸ m2) (ha _ m1)
    · exact absurd k1.symm a1
  · rw [if_neg a1, if_neg a2] at e
    rcases k1 with k1 | k1 <;> rcases k2 with k2 | k2
    · rw [e, ← k1, ← k2]
    · exact absurd k2.symm a2
    · exact absurd k1.symm a1
    · exact absurd k1.symm a1
def wt (l : List (List Str)) : Nat := (l.map fun w => 7 ^ (7 - w.length)).sum
theorem wt_app {l m : List (List Str)} : wt (l ++ m) = wt l + wt m := by simp [wt]
theorem wt_same {n : Nat} : ∀ {l : List (List Str)}, (∀ w ∈ l, w.length = n) → wt l = l.length * 7 ^ (7 - n)
  | [], _ => by simp [wt]
  | w :: l, h => by
    have h1 := h w List.mem_cons_self
    have h2 := wt_same fun v hv => h v (List.mem_cons_of_mem w hv)
    simp only [wt, List.map_cons, List.sum_cons] at h2 ⊢
    rw [h2, h1, List.length_cons, Nat.succ_mul]
    omega
theorem wt_step {v : List Str} (hl : v.length ≤ 6) (hs : (step1 E v).length ≤ 6) : wt (step1 E v) < wt [v] := by
  rw [wt_same (n := v.length + 1) (l := step1 E v) (fun w hw => by
    unfold step1 at hw
    obtain ⟨y, _, rfl⟩ := List.mem_map.mp hw
    simp), wt_same (n := v.length) (l := [v]) (fun w hw => by rw [List.mem_singleton.mp hw])]
  have e : 7 - v.length = (7 - (v.length + 1)) + 1 := by omega
  rw [e, Nat.pow_succ, List.length_singleton, Nat.one_mul]
  have hp : 0 < 7 ^ (7 - (v.length + 1)) := Nat.pos_of_ne_zero (by simp)
  have := Nat.mul_le_mul_right (7 ^ (7 - (v.length + 1))) hs
  omega
end Rv
end

section
set_option Elab.async false
set_option autoImplicit false
set_option linter.all false
set_option maxRecDepth 100000
set_option maxHeartbeats 1000000
/-! Rv29: plain: colourings of places. -/
namespace Rv
open PySem
/-! ### plain colourings -/
def pc (most : Nat) : Nat → List (List Nat × Nat)
  | 0 => [([], 0)]
  | n + 1 => (pc most n).flatMap fun x => (List.range (min (x.2 + 1) most)).map fun c => (x.1 ++ [c], max x.2 (c + 1))
theorem pc_mem {most n : Nat} {x : List Nat × Nat} (h : x ∈ pc most n) : x.1.length = n ∧ x.2 ≤ most ∧ x.2 ≤ n := by
  induction n generalizing x with
  | zero =>
    simp only [pc, List.mem_singleton] at h
    subst h
    exact ⟨rfl, Nat.zero_le _, Nat.le_refl _⟩
  | succ n ih =>
    simp only [pc, List.mem_flatMap, List.mem_map, List.mem_range] at h
    obtain ⟨y, hy, c, hc, rfl⟩ := h
    obtain ⟨h1, h2, h3⟩ := ih hy
    refine ⟨by simp [h1], ?_, ?_⟩ <;> simp only <;> omega
theorem fm_len {α β : Type} {f : α → List β} {n : Nat} : ∀ {l : List α}, (∀ x ∈ l, (f x).length ≤ n) → (l.flatMap f).length ≤ l.length * n
  | [], _ => by simp
  | x :: l, h => by
    rw [List.flatMap_cons, List.length_append, List.length_cons, Nat.succ_mul]
    have h1 := h x List.mem_cons_self
    have h2 := fm_len fun y hy => h y (List.mem_cons_of_mem x hy)
    omega
theorem pc_len {most : Nat} : ∀ {n : Nat}, (pc most n).length ≤ most ^ n
  | 0 => by simp [pc]
  | n + 1 => by
    rw [Nat.pow_succ]
    exact Nat.le_trans (fm_len (n := most) fun x _ => by simp only [List.length_map, List.length_range]; omega) (Nat.mul_le_mul_right _ pc_len)
theorem pc_range {most : Nat} : ∀ {n : Nat}, n ≤ most → (List.range n, n) ∈ pc most n
  | 0, _ => by simp [pc]
  | n + 1, h => by
    simp only [pc, List.mem_flatMap, List.mem_map, List.mem_range]
    refine ⟨(List.range n, n), pc_range (by omega), n, by simp only; omega, ?_⟩
    rw [List.range_succ]
    simp only [Prod.mk.injEq, true_and]
    omega
/-! ### unlike ones -/
def addK (F : List Nat) (k : Nat) : List Nat := if k ∈ F then F else F ++ [k]
theorem addK_len : ∀ {l F : List Nat}, (l.foldl addK F).length ≤ F.length + l.length
  | [], F => by simp
  | x :: l, F => by
    rw [List.foldl_cons]
    refine Nat.le_trans addK_len ?_
    unfold addK
    split <;> simp <;> omega
theorem addK_all : ∀ {l F : List Nat}, (l.foldl addK F).length = F.length + l.length ↔ l.Nodup ∧ ∀ x ∈ l, x ∉ F
  | [], F => by simp
  | x :: l, F => by
    rw [List.foldl_cons]
    by_cases h : x ∈ F
    · have e : addK F x = F := if_pos h
      rw [e]
      have := addK_len (l := l) (F := F)
      simp only [List.length_cons]
      constructor
      · omega
      · exact fun k => absurd h (k.2 x List.mem_cons_self)
    · have e : addK F x = F ++ [x] := if_neg h
      rw [e]
      have := addK_all (l := l) (F := F ++ [x])
      rw [List.length_append] at this
      simp only [List.length_cons, List.length_nil] at this ⊢
      rw [show F.length + (l.length + 1) = F.length + (0 + 1) + l.length from by omega, this, List.nodup_cons]
      constructor
      · rintro ⟨a, b⟩
        refine ⟨⟨fun z => b x z (by simp), a⟩, fun y hy => ?_⟩
        rcases List.mem_cons.mp hy with rfl | hy
        · exact h
        · exact fun z => b y hy (List.mem_append_left _ z)
      · rintro ⟨⟨a, b⟩, c⟩
        refine ⟨b, fun y hy z => ?_⟩
        rcases List.mem_append.mp z with z | z
        · exact c y (List.mem_cons_of_mem _ hy) z
        · rw [List.mem_singleton] at z; exact a (z ▸ hy)
theorem nodup_inj {α β : Type} {f : α → β} {l : List α} (h : (l.map f).Nodup) {a b : α} (ha : a ∈ l) (hb : b ∈ l) (e : f a = f b) : a = b := by
  induction l with
  | nil => cases ha
  | cons x l ih =>
    rw [List.map_cons, List.nodup_cons] at h
    rcases List.mem_cons.mp ha with k1 | ha <;> rcases List.mem_cons.mp hb with k2 | hb
    · rw [k1, k2]
    · exact absurd (List.mem_map.mpr ⟨b, hb, (k1 ▸ e).symm⟩) h.1
    · exact absurd (List.mem_map.mpr ⟨a, ha, k2 ▸ e⟩) h.1
    · exact ih h.2 ha hb
theorem nodup_of_inj {α β : Type} {f : α → β} {l : List α} (hn : l.Nodup) (h : ∀ a ∈ l, ∀ b ∈ l, f a = f b → a = b) : (l.map f).Nodup := by
  induction l with
  | nil => simp
  | cons x l ih =>
    rw [List.nodup_cons] at hn
    rw [List.map_cons, List.nodup_cons]
    refine ⟨fun z => ?_, ih hn.2 fun a ha b hb => h a (List.mem_cons_of_mem _ ha) b (List.mem_cons_of_mem _ hb)⟩
    obtain ⟨y, hy, e⟩ := List.mem_map.mp z
    have := h y (List.mem_cons_of_mem _ hy) x List.mem_cons_self e
    exact hn.1 (this ▸ hy)
def unl (p sp : List Nat) : Bool := decide (sp.map fun i => p.getD i 0).Nodup
def brt (p : List Nat) (rows : List (List (List Nat))) : Bool := rows.all fun r => r.any fun sp => unl p sp
/-! ### the places between -/
def pairs (P : List Str) : List (Str × Str) := (P.zipIdx).flatMap fun x => (P.drop (x.2 + 1)).map fun y => (x.1, y)
theorem pairs_in {P : List Str} {e : Str × Str} (h : e ∈ pairs P) : e.1 ∈ P ∧ e.2 ∈ P := by
  simp only [pairs, List.mem_flatMap, List.mem_map] at h
  obtain ⟨x, hx, y, hy, rfl⟩ := h
  exact ⟨List.fst_mem_of_mem_zipIdx hx, List.mem_of_mem_drop hy⟩
theorem pairs_all {P : List Str} {a b : Str} (ha : a ∈ P) (hb : b ∈ P) (hne : a ≠ b) : (a, b) ∈ pairs P ∨ (b, a) ∈ pairs P := by
  obtain ⟨i, hi, ei⟩ := List.getElem_of_mem ha
  obtain ⟨j, hj, ej⟩ := List.getElem_of_mem hb
  have key : ∀ {i j : Nat} (hi : i < P.length) (hj : j < P.length), i < j → (P[i], P[j]) ∈ pairs P := by
    intro i j hi hj hij
    simp only [pairs, List.mem_flatMap, List.mem_map]
    refine ⟨(P[i], i), List.mk_mem_zipIdx_iff_getElem?.mpr (List.getElem?_eq_getElem hi), P[j], ?_, rfl⟩
    simp only
    refine List.mem_iff_getElem.mpr ⟨j - (i + 1), by rw [List.length_drop]; omega, ?_⟩
    rw [List.getElem_drop]
    congr 1
    omega
  rcases Nat.lt_trichotomy i j with h | h | h
  · have := key hi hj h
    rw [ei, ej] at this
    exact .inl this
  · subst h
    exact absurd (ei.symm.trans ej) hne
  · have := key hj hi h
    rw [ei, ej] at this
    exact .inr this
def inner (P w : List Str) : List Nat := (w.tail.dropLast).map fun z => P.idxOf z
theorem mem_inner {w : List Str} {u : Str} (h : u ∈ w) (h1 : w.head? ≠ some u) (h2 : w.getLast? ≠ some u) : u ∈ w.tail.dropLast := by
  cases w with
  | nil => cases h
  | cons a t =>
    rcases List.mem_cons.mp h with rfl | h
    · exact absurd rfl h1
    · have hne : t ≠ [] := List.ne_nil_of_mem h
      rw [List.tail_cons]
      rw [← List.dropLast_concat_getLast hne] at h
      rcases List.mem_append.mp h with k | k
      · exact k
      · rw [List.mem_singleton] at k
        refine absurd ?_ h2
        rw [List.getLast?_cons, List.getLast?_eq_getLast hne, k]
        rfl
structure RowsOk (P : List Str) (E : List (Str × Str)) (rows : List (List (List Nat))) : Prop where
  each : ∀ r ∈ rows, r ≠ [] ∧ ∀ sp ∈ r, ∃ x y w, x ∈ P ∧ Path E x w y ∧ sp = inner P w
  all : ∀ e ∈ pairs P, ∃ r ∈ rows, ∀ sp ∈ r, ∃ w, Path E e.1 w e.2 ∧ sp = inner P w
  full : ∀ r ∈ rows, ∃ e ∈ pairs P, ∀ w, Path E e.1 w e.2 → inner P w ∈ r
variable {P : List Str} {E : List (Str × Str)} {rows : List (List (List Nat))}
theorem idx_inj {a b : Str} (ha : a ∈ P) (hb : b ∈ P) (e : P.idxOf a = P.idxOf b) : a = b := by
  have h1 := List.idxOf_lt_length_of_mem ha
  have h2 := List.idxOf_lt_length_of_mem hb
  have e1 := List.getElem_idxOf h1
  have e2 := List.getElem_idxOf h2
  rw [← e1, ← e2]
  congr 1
theorem inner_ok {x y : Str} {w : List Str} (h : Path E x w y) (hE : EdgesIn E P) (hx : x ∈ P) : (inner P w).Nodup ∧ ∀ i ∈ inner P w, i < P.length := by
  have hin : ∀ z ∈ w.tail.dropLast, z ∈ P := fun z hz => h.inP hE hx z (List.mem_of_mem_tail (List.dropLast_subset _ hz))
  constructor
  · refine nodup_of_inj ?_ fun a ha b hb e => idx_inj (hin a ha) (hin b hb) e
    exact (h.nodup.sublist (List.tail_sublist w)).sublist (List.dropLast_sublist _)
  · intro i hi
    obtain ⟨z, hz, rfl⟩ := List.mem_map.mp hi
    exact List.idxOf_lt_length_of_mem (hin z hz)
theorem rows_bright (h : RowsOk P E rows) (hE : EdgesIn E P) : brt (List.range P.length) rows = true := by
  unfold brt
  rw [List.all_eq_true]
  intro r hr
  obtain ⟨h1, h2⟩ := h.each r hr
  obtain ⟨sp, t, rfl⟩ := List.exists_cons_of_ne_nil h1
  obtain ⟨x, y, w, hx, hw, e⟩ := h2 sp List.mem_cons_self
  obtain ⟨k1, k2⟩ := inner_ok hw hE hx
  rw [← e] at k1 k2
  rw [List.any_cons, Bool.or_eq_true]
  refine .inl (decide_eq_true ?_)
  have : (sp.map fun i => (List.range P.length).getD i 0) = sp := by
    conv => rhs; rw [← List.map_id sp]
    refine List.map_congr_left fun i hi => ?_
    rw [List.getD_eq_getElem?_getD, List.getElem?_range (k2 i hi)]
    rfl
  rw [this]
  exact k1
theorem rows_cuts {p : List Nat} {u v : Str} (h : RowsOk P E rows) (hc : ∀ x ∈ P, ∀ y ∈ P, Reach E x y) (hb : brt p rows = true) (hu : u ∈ P) (hv : v ∈ P) (huv : u ≠ v) (cu : cutB P E u = true) (cv : cutB P E v = true) : p.getD (P.idxOf u) 0 ≠ p.getD (P.idxOf v) 0 := by
  obtain ⟨a, ha, b, hb2, hab, u1, u2, v1, v2, key⟩ := two_cuts hc hu hv huv cu cv
  have : ∃ s t, (s, t) ∈ pairs P ∧ u ≠ s ∧ u ≠ t ∧ v ≠ s ∧ v ≠ t ∧ ∀ w, Path E s w t → u ∈ w ∧ v ∈ w := by
    rcases pairs_all ha hb2 hab with k | k
    · exact ⟨a, b, k, u1, u2, v1, v2, fun w hw => key w (.inl hw)⟩
    · exact ⟨b, a, k, u2, u1, v2, v1, fun w hw => key w (.inr hw)⟩
  obtain ⟨s, t, hst, u1, u2, v1, v2, key⟩ := this
  obtain ⟨r, hr, k⟩ := h.all _ hst
  unfold brt at hb
  rw [List.all_eq_true] at hb
  obtain ⟨sp, hsp, hun⟩ := List.any_eq_true.mp (hb r hr)
  obtain ⟨w, hw, e⟩ := k sp hsp
  obtain ⟨mu, mv⟩ := key w hw
  have hin : ∀ z, z ∈ w → z ≠ s → z ≠ t → P.idxOf z ∈ sp := fun z hz n1 n2 => by
    rw [e]
    refine List.mem_map.mpr ⟨z, mem_inner hz (fun q => ?_) (fun q => ?_), rfl⟩
    · rw [hw.head] at q; cases q; exact n1 rfl
    · rw [hw.last] at q; cases q; exact n2 rfl
  have hn : (sp.map fun i => p.getD i 0).Nodup := of_decide_eq_true hun
  intro z
  exact huv (idx_inj hu hv (nodup_inj hn (hin u mu u1 u2) (hin v mv v1 v2) z))
end Rv
end

section
set_option Elab.async false
set_option autoImplicit false
set_option linter.all false
set_option maxRecDepth 100000
set_option maxHeartbeats 1000000
/-! Rv30: chains of comparisons, defs as values, sets of ints, repeated tuples, lists of ranges. -/
namespace Rv
open PySem PySem.Spec L2 LamX NdefX
open PyProof.Rows hiding St
section
variable {X : Cx} {W : Wd} {a b c e : Expr} {es : List Expr} {pos p p2 q2 : Pos} {oa : Op} {os : List Op} {x : Str} {i j k n : Nat}
/-! ### a <= b <= c of three locals that hold ints -/
def chainM (i j k : Nat) : M := fun ρ => match rget ρ i, rget ρ j, rget ρ k with
  | some (.int u, _), some (.int v, _), some (.int w, _) => some ((.bl (decide (u ≤ v) && decide (v ≤ w)), false), ρ)
  | _, _, _ => none
theorem slot_int {P : Hp} {C : Av} {Z : Option Addr} {A : Nat → Option Addr} {ρ : Rho} {σ : L2.St} {H : Hp} {u : Int} {o : Own} (S : SR W P C Z A ρ σ H) (h : rget ρ i = some (.int u, o)) : σ[i]? = some (some (.int u)) := by
  obtain ⟨v, ev, s⟩ := S.slots i _ _ h
  have : v = .int u := by
    cases o with
    | fr =>
      have := s.2
      simpa only [Rp] using this
    | ow => obtain ⟨_, _, _, c⟩ := s; exact False.elim c
    | io => obtain ⟨_, _, _, c⟩ := s; exact False.elim c
  rw [← this]; exact ev
theorem chain_ok {σ : L2.St} {H : Hp} {Q : VK} (h : tOf W (chainM i j k) σ H Q) : tChain (rI0 fun i j => .bl (decide (i ≤ j))) (rI0 fun i j => .bl (decide (i ≤ j))) (tVar i) (tVar j) (tVar k) σ H Q := by
  obtain ⟨P, C, Z, A, ρ, r, ρ', S, e, q⟩ := h
  unfold chainM at e
  split at e
  · rename_i u _ v _ w _ h1 h2 h3
    cases e
    have q' : Q (.bl (decide (u ≤ v) && decide (v ≤ w))) H := q _ H C A (.refl S) (by show Rp _ _ _ _ _; simp only [Rp])
    refine ⟨_, slot_int S h1, _, slot_int S h2, u, v, rfl, rfl, decide (u ≤ v), rfl, ?_⟩
    by_cases z : u ≤ v
    · rw [decide_eq_true z] at q' ⊢
      rw [if_pos rfl]
      exact ⟨_, slot_int S h3, v, w, rfl, rfl, by simpa using q'⟩
    · rw [decide_eq_false z] at q' ⊢
      rw [if_neg (by simp)]
      simpa using q'
  · cases e
theorem e_chain (ha : PE X a (tVar i)) (hb : PE X b (tVar j)) (hc : PE X c (tVar k)) (hm : lastMarks [.LtE, .LtE] [b, c] = false := by with_unfolding_all rfl) : EE X W (.Compare a [.LtE, .LtE] [b, c] pos) (chainM i j k) :=
  PE.imp (pe_chain op_le op_le ha hb hc hm) fun σ H Q q => chain_ok q
/-! ### a def as a value -/
theorem e_gfn {n : Nat} (hg : Gl X x) (hm : X.mg x = some (.ref (W.fa n))) (hd : (x == ("__debug__" : Str)) = false := by decide) : EE X W (.Name x pos) (conM (.gfn n)) :=
  PE.imp (pe_glob (v := .ref (W.fa n)) hg hm rfl hd) fun σ H Q q => con_ok (fun H av => by simp only [Rp]) q
/-- the def at an address promises sp -/
def DAt (P : Program) (w : World) (K : PySem.W.Frag) (mg : Str → Option Value) (base : Heap) (k : Nat) (f : Addr) (sp : Sp) : Prop :=
  ∃ (fd : FuncData) (ps : List Str), PySem.W.keepIn K (.ref f) = true ∧ L2.Binds K fd ps [] ∧ FnOk P w K mg base L2.CX0 k f fd ps sp
theorem DefOk.at {P : Program} {w : World} {K : PySem.W.Frag} {mg : Str → Option Value} {base : Heap} {k : Nat} {x : Str} {st : Stmt} {ps : List Str} {sp : Sp} {f : Addr} (d : DefOk P w K mg base k x st ps sp) (h : mg x = some (.ref f)) : DAt P w K mg base k f sp := by
  obtain ⟨f', fd, h1, h2, h3, h4⟩ := d
  rw [h] at h1
  cases h1
  exact ⟨fd, ps, h2.kp, h3, h4⟩
/-- is_right(..), where a def was given -/
def callVM (i : Nat) (os : List Op) (gs : List (List T → Option Res)) : M := fun ρ => match rget ρ i with
  | some (.gfn n, .fr) => (match gs[n]? with
    | some g => storeM os g ρ
    | none => none)
  | _ => none
theorem callV_ok {gs : List (List T → Option Res)} {σ : L2.St} {H : Hp} {Q : VK} (h : tOf W (callVM i os gs) σ H Q) : ∃ n g, gs[n]? = some g ∧ σ[i]? = some (some (.ref (W.fa n))) ∧ tOf W (storeM os g) σ H Q := by
  obtain ⟨P, C, Z, A, ρ, r, ρ', S, e, q⟩ := h
  unfold callVM at e
  split at e
  · rename_i n hr
    split at e
    · rename_i g hg
      obtain ⟨v, ev, s⟩ := S.slots i _ _ hr
      have s' := s.2
      simp only [Rp] at s'
      subst s'
      exact ⟨n, g, hg, ev, P, C, Z, A, ρ, r, ρ', S, e, q⟩
    · cases e
  · cases e
theorem e_callV {gs : List (List T → Option Res)} (i : Nat) (D : ∀ n g, gs[n]? = some g → DAt X.prog X.w X.K X.mg X.base k (W.fa n) (spF W g)) (hr : Room k X.A) (hv : PE X (.Name x p) (tVar i)) (ha : EA X W (e :: es) os) (he : starEach (e :: es) X.env = (false, eval e X.env) :: starEach es X.env := by rfl) (hpl : (backTo pos (starEach es X.env)).any (·.1) = false := by rfl) :
    EE X W (.Call (.Name x p) (e :: es) [] pos) (callVM i os gs) := by
  refine ⟨fun pins s σ H Q I h => ?_⟩
  obtain ⟨n, g, hg, hs, h'⟩ := callV_ok h
  obtain ⟨fd, ps, hk, hb, F⟩ := D n g hg
  have q' : tOs W os σ H fun vs H1 => spF W g vs H1 Q L2.E0 := store_ok spF_store h'
  refine wpAny_Call_Name_kw (thn (hv.run pins s σ H (fun v H1 => v = .ref (W.fa n) ∧ H1 = H) I ⟨_, hs, rfl, rfl⟩) fun u s1 ⟨v, H1, I1, r1, q1⟩ => ?_)
  obtain ⟨ev, eH⟩ := q1
  subst ev
  rw [eH] at I1
  obtain rfl : u = Value.ref (W.fa n) := r1
  refine PySem.W.callWith_K (h₀ := X.base) I1.ok.mod.kin hk (thn (ha.run pos pins s1 σ H _ I1 q') fun us s2 ⟨vs, H2, I2, r, q⟩ => ⟨I2.kIn, ?_⟩) he hpl
  exact run_fn F hr hb (.nil) L2.pass0 I2 r (by rw [List.append_nil]; exact q)
/-- classes' addresses, defs' addresses from 100 on -/
def caOf (a : Addr) (l : List Addr) (i : Nat) : Addr := if i < 100 then a else l.getD (i - 100) 0
/-! ### list(range(n)) -/
def gLrg : List T → Option Res
  | [.int n] => if 0 ≤ n ∧ n ≤ 16777216 then some (.lst (intsT 0 n.toNat), true) else none
  | _ => none
theorem rpl_rg {H : Hp} {av : Av} : ∀ {l : List Nat}, RpL W H av (l.map fun i : Nat => T.int (0 + (i : Nat))) (l.map fun i : Nat => V.int (0 + (i : Nat)))
  | [] => RpL.nil
  | y :: l => .cons (by simp only [Rp]) rpl_rg
theorem p_lrg : PrimOk W (fun xs H Q => ∃ n, xs = [.int n] ∧ RgOk 0 n ∧ ∀ q, H q = none → Q (.ref q) (upd H q (.lst (rgV 0 n)))) gLrg := by
  intro av ts vs H Q res rt e tb tr q
  unfold gLrg at e
  split at e
  · rename_i n
    split at e
    · rename_i h
      cases e
      obtain ⟨v, rfl, hv⟩ := rt.one
      refine ⟨n, by rw [rt_int hv], .of_le (by omega) h.2 (by omega) h.1, fun l hl => q _ _ (.lst tb hl ?_)⟩
      unfold intsT rgV
      rw [Int.sub_zero]
      exact rpl_rg
    · cases e
  · cases e
theorem e_lrg (hm : X.mg "list" = none) (hm2 : X.mg "range" = none) (ha : EO X W a oa) (hc : X.calm = true := by rfl) (hg : Gl X "list" := by rfl) (hg2 : Gl X "range" := by rfl) (na : starEach [a] X.env = (false, eval a X.env) :: starEach [] X.env := by rfl) (nb : starEach [.Call (.Name "range" p2) [a] [] q2] X.env = (false, eval (.Call (.Name "range" p2) [a] [] q2) X.env) :: starEach [] X.env := by rfl) :
    EE X W (.Call (.Name "list" p) [.Call (.Name "range" p2) [a] [] q2] [] pos) (primM [oa] gLrg) :=
  PE.imp (pe_listRg hc hg hm (prg_1 hg2 hm2 ha na) nb) fun σ H Q q => by
    have h' : tO W oa σ H fun v H1 => ∃ n, [v] = [.int n] ∧ RgOk 0 n ∧ ∀ q, H1 q = none → Q (.ref q) (upd H1 q (.lst (rgV 0 n))) := prim_ok p_lrg q
    exact tO_mono h' fun v H1 ⟨n, e, h⟩ => by cases e; exact ⟨n, rfl, h⟩
/-! ### a tuple, many times -/
def gRepT : List T → Option Res
  | [.tup _ l, .int k] => if l ≠ [] ∧ 2 ≤ k ∧ k ≤ 1000 ∧ l.length ≤ 1000 then some (.tup false (List.replicate k.toNat l).flatten, false) else none
  | _ => none
theorem rpl_rep {H : Hp} {av : Av} {l : List T} {xs : List V} (r : RpL W H av l xs) : ∀ {n : Nat}, RpL W H av (List.replicate n l).flatten (List.replicate n xs).flatten
  | 0 => RpL.nil
  | n + 1 => by
    rw [List.replicate_succ, List.replicate_succ, List.flatten_cons, List.flatten_cons]
    exact r.append (rpl_rep r)
theorem p_repT : PrimOk W (r2 (rRepT W.K)) gRepT := by
  intro av ts vs H Q res rt e tb tr q
  unfold gRepT at e
  split at e
  · split at e
    · rename_i k l n h
      cases e
      obtain ⟨v, w, rfl, h1, h2⟩ := rt.two
      obtain ⟨a, xs, rfl, s, r⟩ := rt_tup h1
      have hl := r.length
      refine ⟨_, _, by rw [rt_int h2], a, n, xs, rfl, rfl, s.sq, fun z => ?_, h.2.1, h.2.2.1, by rw [hl]; exact h.2.2.2, fun p hp => q _ _ (.tup tr tb hp (rpl_rep r))⟩
      rw [z] at hl
      exact h.1 (List.length_eq_zero_iff.mp hl.symm)
    · cases e
  · cases e
theorem e_repT {ob : Op} (ha : EO X W a oa) (hb : EO X W b ob) (hK : X.K = W.K := by rfl) : EE X W (.BinOp a .Mult b pos) (primM [oa, ob] gRepT) := e_op2 op_repT (hK ▸ p_repT) ha hb
/-! ### how many unlike ints -/
def ddup (acc : List Int) (x : Int) : List Int := if acc.any (· == x) then acc else acc ++ [x]
def nset (ns : List Int) : Nat := (ns.foldl ddup []).length
theorem range_getD : ∀ (ns : List Int), (List.range ns.length).map (fun i => ns.getD i 0) = ns := fun ns => by
  apply List.ext_getElem
  · simp
  · intro i h1 h2
    simp [h2]
theorem met_nset (ns : List Int) : (PyProof.Rows.firstMet (fun i => ns.getD i 0) ns.length).length = nset ns := by
  unfold PyProof.Rows.firstMet nset
  rw [range_getD]
  rfl
theorem nset_le (ns : List Int) : nset ns ≤ ns.length := by
  rw [← met_nset]
  exact PyProof.Rows.firstMet_length_le _ _
def tLenSetG (K : PySem.W.Frag) (ta : TE) : TE := fun σ H Q => ta σ H fun x H1 => ∃ (l : Addr) (ns : List Int), x = .ref l ∧ SqL K H1 l (ns.map V.int) ∧ ns.length ≤ 4000 ∧ Q (.int (nset ns : Nat)) H1
theorem pe_lenSetG {ta : TE} (hg : Gl X "len") (hm : X.mg "len" = none) (hg2 : Gl X "set") (hm2 : X.mg "set" = none) (ha : PE X a ta) (hc : X.calm = true) (na : starEach [a] X.env = (false, eval a X.env) :: starEach [] X.env) : PE X (.Call (.Name "len" p) [.Call (.Name "set" p2) [a] [] q2] [] pos) (tLenSetG X.K ta) := by
  refine ⟨fun pins s σ H Q I h => Call_ (ld_blt I hg hm boot_len (PyProof.Rows.callWith_builtin1 (PyProof.Rows.args_cons (Call_ (ld_blt I hg2 hm2 boot_set (PyProof.Rows.callWith_type1 (PyProof.Rows.args_cons (thn (ha.run pins s σ H _ I h) fun v s1 w => PyProof.Rows.args_nil ?_) na) na rfl))) rfl) rfl rfl))⟩
  obtain ⟨x, H1, I1, rx, l, ns, rfl, hq, hl, q1⟩ := w
  cases rx
  obtain ⟨its, ri, pl, _⟩ := I1.list hq
  have hlen : its.toArray.size = ns.length := by rw [List.size_toArray, ← ri.length, List.length_map]
  refine call_set_list (I1.ok.hd hc) pl.isList (ns := ns) (by simpa using RZ.intsAre_vals ri) (by rw [hlen]; unfold scanBound; omega) fun h' tk hS hk => ?_
  rw [hlen, met_nset] at hS
  refine PyProof.Rows.args_nil ?_
  obtain ⟨o, es, ep, t, ho, hex, hd, _, _, _, hf, hn⟩ := hS
  have I2 : Inv X pins σ H1 { s1 with heap := h', toks := tk } := I1.kept fun b o e => hk b o (Heap.lt_size e) e
  have hle := nset_le ns
  exact call_len_set ho hex hd hf (by rw [hn] <;> omega) ⟨.int (nset ns : Nat), H1, I2.tok _, ⟨_, by rw [hn]⟩, q1⟩
def gLenSetG : List T → Option Res
  | [.lst l] => (match intsOf l with
    | some ns => if ns.length ≤ 4000 then some (.int (nset ns : Nat), false) else none
    | none => none)
  | _ => none
theorem p_lenSetG : PrimOk W (fun vs H Q => ∃ x, vs = [x] ∧ ∃ (l : Addr) (ns : List Int), x = .ref l ∧ SqL W.K H l (ns.map V.int) ∧ ns.length ≤ 4000 ∧ Q (.int (nset ns : Nat)) H) gLenSetG := by
  intro av ts vs H Q res rt e tb tr q
  unfold gLenSetG at e
  split at e
  · split at e
    · rename_i l ns hn
      split at e
      · rename_i h
        cases e
        obtain ⟨v, rfl, a, xs, rfl, s, r⟩ := rt.one
        exact ⟨_, rfl, a, ns, rfl, .inl (.inl (by rw [← rpl_int hn r]; exact s)), h, q _ _ (.int tb)⟩
      · cases e
    · cases e
  · cases e
theorem e_lenSetG (hm : X.mg "len" = none) (hm2 : X.mg "set" = none) (ha : EO X W a oa) (hc : X.calm = true := by rfl) (hg : Gl X "len" := by rfl) (hg2 : Gl X "set" := by rfl) (na : starEach [a] X.env = (false, eval a X.env) :: starEach [] X.env := by rfl) (hK : X.K = W.K := by rfl) :
    EE X W (.Call (.Name "len" p) [.Call (.Name "set" p2) [a] [] q2] [] pos) (primM [oa] gLenSetG) :=
  PE.imp (pe_lenSetG hg hm hg2 hm2 ha hc na) fun σ H Q q => by
    have h' : tO W oa σ H fun v H1 => ∃ x, [v] = [x] ∧ ∃ (l : Addr) (ns : List Int), x = .ref l ∧ SqL W.K H1 l (ns.map V.int) ∧ ns.length ≤ 4000 ∧ Q (.int (nset ns : Nat)) H1 := prim_ok p_lenSetG q
    refine tO_mono h' fun v H1 ⟨x, e, l, ns, h1, h2, h3, q⟩ => ?_
    cases e
    rw [hK]
    exact ⟨l, ns, h1, h2, h3, q⟩
/-- as many as there are: all unlike -/
theorem ddup_len : ∀ (l acc : List Int), (l.foldl ddup acc).length = acc.length + l.length ↔ l.Nodup ∧ ∀ x ∈ l, x ∉ acc
  | [], acc => by simp
  | x :: l, acc => by
    have hle : ∀ (l acc : List Int), (l.foldl ddup acc).length ≤ acc.length + l.length := by
      intro l
      induction l with
      | nil => intro acc; simp
      | cons y l ih =>
        intro acc
        rw [List.foldl_cons]
        refine Nat.le_trans (ih _) ?_
        unfold ddup
        split <;> simp <;> omega
    have ih := ddup_len l (ddup acc x)
    have hx : acc.any (· == x) = true ↔ x ∈ acc := by simp
    rw [List.foldl_cons]
    by_cases h : x ∈ acc
    · have e : ddup acc x = acc := if_pos (hx.mpr h)
      have := hle l acc
      rw [e]
      simp only [List.length_cons]
      constructor
      · omega
      · exact fun k => absurd h (k.2 x List.mem_cons_self)
    · have e : ddup acc x = acc ++ [x] := if_neg (fun z => h (hx.mp z))
      rw [e] at ih ⊢
      rw [List.length_append] at ih
      simp only [List.length_cons, List.length_nil] at ih ⊢
      rw [show acc.length + (l.length + 1) = acc.length + (0 + 1) + l.length from by omega, ih, List.nodup_cons]
      constructor
      · rintro ⟨u, v⟩
        refine ⟨⟨fun z => v x z (by simp), u⟩, fun y hy => ?_⟩
        rcases List.mem_cons.mp hy with rfl | hy
        · exact h
        · exact fun z => v y hy (List.mem_append_left _ z)
      · rintro ⟨⟨u, v⟩, w⟩
        refine ⟨v, fun y hy z => ?_⟩
        rcases List.mem_append.mp z with z | z
        · exact w y (List.mem_cons_of_mem _ hy) z
        · rw [List.mem_singleton] at z; exact u (z ▸ hy)
theorem nset_all (l : List Int) : nset l = l.length ↔ l.Nodup := by
  have := ddup_len l []
  unfold nset
  simpa using this
end
end Rv
end

section
set_option Elab.async false
set_option autoImplicit false
set_option linter.all false
set_option maxRecDepth 100000
set_option maxHeartbeats 1000000
/-! Rv31: the greatest, the least; sets of tuples of ints; sums of tuples; is not. -/
namespace Rv
open PySem PySem.Spec L2 LamX NdefX
open PyProof.Rows hiding St
/-- the greatest of some ints, 0 of none -/
def topI : List Int → Int
  | [] => 0
  | x :: l => l.foldl (fun m y => if m < y then y else m) x
def lowI : List Int → Int
  | [] => 0
  | x :: l => l.foldl (fun m y => if y < m then y else m) x
theorem topI_fold : ∀ (l : List Int) (x : Int), (l.foldl (fun m y => if m < y then y else m) x = x ∨ l.foldl (fun m y => if m < y then y else m) x ∈ l) ∧ x ≤ l.foldl (fun m y => if m < y then y else m) x ∧ ∀ y ∈ l, y ≤ l.foldl (fun m y => if m < y then y else m) x
  | [], x => ⟨.inl rfl, Int.le_refl _, by simp⟩
  | z :: l, x => by
    obtain ⟨h1, h2, h3⟩ := topI_fold l (if x < z then z else x)
    rw [List.foldl_cons]
    refine ⟨?_, ?_, fun y hy => ?_⟩
    · rcases h1 with h1 | h1
      · rw [h1]
        by_cases q : x < z
        · rw [if_pos q]; exact .inr List.mem_cons_self
        · rw [if_neg q]; exact .inl rfl
      · exact .inr (List.mem_cons_of_mem _ h1)
    · refine Int.le_trans ?_ h2
      split <;> omega
    · rcases List.mem_cons.mp hy with rfl | hy
      · refine Int.le_trans ?_ h2
        split <;> omega
      · exact h3 y hy
theorem lowI_fold : ∀ (l : List Int) (x : Int), (l.foldl (fun m y => if y < m then y else m) x = x ∨ l.foldl (fun m y => if y < m then y else m) x ∈ l) ∧ l.foldl (fun m y => if y < m then y else m) x ≤ x ∧ ∀ y ∈ l, l.foldl (fun m y => if y < m then y else m) x ≤ y
  | [], x => ⟨.inl rfl, Int.le_refl _, by simp⟩
  | z :: l, x => by
    obtain ⟨h1, h2, h3⟩ := lowI_fold l (if z < x then z else x)
    rw [List.foldl_cons]
    refine ⟨?_, ?_, fun y hy => ?_⟩
    · rcases h1 with h1 | h1
      · rw [h1]
        by_cases q : z < x
        · rw [if_pos q]; exact .inr List.mem_cons_self
        · rw [if_neg q]; exact .inl rfl
      · exact .inr (List.mem_cons_of_mem _ h1)
    · refine Int.le_trans h2 ?_
      split <;> omega
    · rcases List.mem_cons.mp hy with rfl | hy
      · refine Int.le_trans h2 ?_
        split <;> omega
      · exact h3 y hy
theorem topI_mem {l : List Int} (h : l ≠ []) : topI l ∈ l := by
  obtain ⟨x, l, rfl⟩ := List.exists_cons_of_ne_nil h
  rcases (topI_fold l x).1 with q | q
  · have e : topI (x :: l) = x := q
    rw [e]; exact List.mem_cons_self
  · exact List.mem_cons_of_mem _ q
theorem topI_le {l : List Int} {y : Int} (h : y ∈ l) : y ≤ topI l := by
  obtain ⟨x, l, rfl⟩ := List.exists_cons_of_ne_nil (List.ne_nil_of_mem h)
  rcases List.mem_cons.mp h with rfl | h
  · exact (topI_fold l _).2.1
  · exact (topI_fold l x).2.2 y h
theorem lowI_mem {l : List Int} (h : l ≠ []) : lowI l ∈ l := by
  obtain ⟨x, l, rfl⟩ := List.exists_cons_of_ne_nil h
  rcases (lowI_fold l x).1 with q | q
  · have e : lowI (x :: l) = x := q
    rw [e]; exact List.mem_cons_self
  · exact List.mem_cons_of_mem _ q
theorem lowI_le {l : List Int} {y : Int} (h : y ∈ l) : lowI l ≤ y := by
  obtain ⟨x, l, rfl⟩ := List.exists_cons_of_ne_nil (List.ne_nil_of_mem h)
  rcases List.mem_cons.mp h with rfl | h
  · exact (lowI_fold l _).2.1
  · exact (lowI_fold l x).2.2 y h
theorem topI_eq {l : List Int} {m : Int} (h1 : m ∈ l) (h2 : ∀ y ∈ l, y ≤ m) : topI l = m := Int.le_antisymm (h2 _ (topI_mem (List.ne_nil_of_mem h1))) (topI_le h1)
theorem lowI_eq {l : List Int} {m : Int} (h1 : m ∈ l) (h2 : ∀ y ∈ l, m ≤ y) : lowI l = m := Int.le_antisymm (lowI_le h1) (h2 _ (lowI_mem (List.ne_nil_of_mem h1)))
section
variable {X : Cx} {W : Wd} {a b c e : Expr} {es : List Expr} {pos p p2 q2 : Pos} {oa ob : Op} {os : List Op} {x : Str} {i j k n : Nat}
/-! ### the greatest of a tuple -/
def rMaxT (K : PySem.W.Frag) : List V → Hp → VK → Prop := fun vs H Q => ∃ (l : Addr) (ns : List Int), vs = [V.ref l] ∧ SqT K H l (ns.map V.int) ∧ 0 < ns.length ∧ ∀ m, m ∈ ns → (∀ y, y ∈ ns → y ≤ m) → Q (.int m) H
theorem cr_maxT (hc : X.calm = true) : CallR X (.builtin "max") (rMaxT X.K) := by
  intro pins s σ H vs us Q I r h
  obtain ⟨l, ns, rfl, hs, hne, q⟩ := h
  obtain ⟨its, rv, hl, _⟩ := I.tuple hs
  rw [Vals.ref1 r]
  have hlen : its.length = ns.length := by rw [← rv.length, List.length_map]
  have hval : ∀ (i : Nat) (v : Value), its.toArray[i]? = some v → ∃ t, v = .int (ns.getD i 0) t := fun i v hv => by
    have hv' : its[i]? = some v := by simpa using hv
    have hi : i < its.length := (List.getElem?_eq_some_iff.mp hv').1
    have hin : i < ns.length := by omega
    obtain ⟨u, hu, ru⟩ := rv.get (i := i) (x := .int ns[i]) (by rw [List.getElem?_map, List.getElem?_eq_getElem hin]; rfl)
    rw [hv'] at hu
    cases hu
    obtain ⟨t, rfl⟩ := ru
    exact ⟨t, by rw [List.getD_eq_getElem?_getD, List.getElem?_eq_getElem hin]; rfl⟩
  have hit : s.heap.IsTuple l its.toArray := hl
  obtain ⟨o, ho, _⟩ := id hit
  have hlt : l < s.heap.objs.size := Heap.lt_size ho
  refine call_max_walk (wpAny_pyIter_tuple hit ?_)
  refine ⟨s.heap.objs.size, [s.heap.objs.size, l], [s.heap.objs.size], its.toArray.size, _, _, _, rfl, Walks.tuple (A := X.A.in1) (I.ok.hd hc) s.heap.objs.size l (Nat.ne_of_lt hlt) its.toArray, ⟨⟨_, Heap.get?_push_size _ rfl, rfl, rfl⟩, hit.push _⟩, fun b hb => ?_, by rw [List.size_toArray]; omega, CmpOf.ints_gt (fun i => ns.getD i 0) hval, fun v h' tk hP hk => ?_⟩
  · show b < (s.heap.push _).objs.size
    rw [Heap.size_push]
    rcases List.mem_cons.mp hb with z | z
    · rw [z]; exact Nat.lt_succ_self _
    · rw [List.mem_singleton.mp z]; exact Nat.lt_succ_of_lt hlt
  · obtain ⟨t, rfl⟩ := hval _ v hP
    obtain ⟨b1, b2⟩ := argBest_gt (fun i => ns.getD i 0) (its.toArray.size - 1)
    have hsz : its.toArray.size = ns.length := by rw [List.size_toArray, hlen]
    have hb : argBest (fun i j => decide (ns.getD i 0 > ns.getD j 0)) (its.toArray.size - 1) < ns.length := by omega
    refine ⟨.int _, H, I.kept (t' := tk) fun b u e => hk b u (fun hm => ?_) (Heap.get?_push_of_some _ e), ⟨t, rfl⟩, q _ ?_ fun j hj => ?_⟩
    · rw [List.mem_singleton.mp hm] at e
      exact absurd (Heap.lt_size e) (Nat.lt_irrefl _)
    · rw [List.getD_eq_getElem?_getD, List.getElem?_eq_getElem hb]
      exact List.getElem_mem hb
    · obtain ⟨i, hi, e⟩ := List.mem_iff_getElem.mp hj
      have e2 : ns.getD i 0 = j := by rw [List.getD_eq_getElem?_getD, List.getElem?_eq_getElem hi, ← e]; rfl
      rw [← e2]
      exact b2 i (by omega)
/-- max of a list or tuple of ints, min of a list -/
def gMax1 : List T → Option Res
  | [.lst l] => (match intsOf l with
    | some ns => if ns ≠ [] then some (.int (topI ns), false) else none
    | none => none)
  | [.tup _ l] => (match intsOf l with
    | some ns => if ns ≠ [] then some (.int (topI ns), false) else none
    | none => none)
  | _ => none
def gMin1 : List T → Option Res
  | [.lst l] => (match intsOf l with
    | some ns => if ns ≠ [] then some (.int (lowI ns), false) else none
    | none => none)
  | _ => none
theorem p_max1 : PrimOk W (fun vs H Q => rMax W.K vs H Q ∨ rMaxT W.K vs H Q) gMax1 := by
  intro av ts vs H Q res rt e tb tr q
  unfold gMax1 at e
  split at e
  · split at e
    · rename_i l ns hn
      split at e
      · rename_i h
        cases e
        obtain ⟨v, rfl, a, xs, rfl, s, r⟩ := rt.one
        exact .inl ⟨a, ns, rfl, .inl (.inl (by rw [← rpl_int hn r]; exact s)), List.length_pos_iff.mpr h, fun m h1 h2 => by rw [← topI_eq h1 h2]; exact q _ _ (.int tb)⟩
      · cases e
    · cases e
  · split at e
    · rename_i k l ns hn
      split at e
      · rename_i h
        cases e
        obtain ⟨v, rfl, h0⟩ := rt.one
        obtain ⟨a, xs, rfl, s, r⟩ := rt_tup h0
        rw [rpl_int hn r] at s
        exact .inr ⟨a, ns, rfl, s.sq, List.length_pos_iff.mpr h, fun m h1 h2 => by rw [← topI_eq h1 h2]; exact q _ _ (.int tb)⟩
      · cases e
    · cases e
  · cases e
theorem p_min1 : PrimOk W (rMin W.K) gMin1 := by
  intro av ts vs H Q res rt e tb tr q
  unfold gMin1 at e
  split at e
  · split at e
    · rename_i l ns hn
      split at e
      · rename_i h
        cases e
        obtain ⟨v, rfl, a, xs, rfl, s, r⟩ := rt.one
        exact ⟨a, ns, rfl, .inl (.inl (by rw [← rpl_int hn r]; exact s)), List.length_pos_iff.mpr h, fun m h1 h2 => by rw [← lowI_eq h1 h2]; exact q _ _ (.int tb)⟩
      · cases e
    · cases e
  · cases e
theorem cr_max1 (hc : X.calm = true) : CallR X (.builtin "max") (fun vs H Q => rMax X.K vs H Q ∨ rMaxT X.K vs H Q) := by
  intro pins s σ H vs us Q I r h
  rcases h with h | h
  · exact L2.cr_max hc pins s σ H vs us Q I r h
  · exact cr_maxT hc pins s σ H vs us Q I r h
theorem e_max1 (hm : X.mg "max" = none) (ha : EA X W [e] os) (hc : X.calm = true := by rfl) (hg : Gl X "max" := by rfl) (hK : X.K = W.K := by rfl) (he : starEach [e] X.env = (false, eval e X.env) :: starEach [] X.env := by rfl) : EE X W (.Call (.Name "max" p) [e] [] pos) (primM os gMax1) := e_blt (cr_max1 hc) (hK ▸ p_max1) (by decide +kernel) (by decide) (by decide) hg hm ha he rfl
theorem e_min1 (hm : X.mg "min" = none) (ha : EA X W [e] os) (hc : X.calm = true := by rfl) (hg : Gl X "min" := by rfl) (hK : X.K = W.K := by rfl) (he : starEach [e] X.env = (false, eval e X.env) :: starEach [] X.env := by rfl) : EE X W (.Call (.Name "min" p) [e] [] pos) (primM os gMin1) := e_blt (L2.cr_min hc) (hK ▸ p_min1) (by decide +kernel) (by decide) (by decide) hg hm ha he rfl
/-! ### sums of tuples, of () too -/
def gAddE : List T → Option Res
  | [.tup _ [], .tup k ys] => if ys.length ≤ lim then some (.tup k ys, false) else none
  | [.tup _ (x :: xs), .tup _ (y :: ys)] => if xs.length + ys.length + 2 ≤ lim then some (.tup false (x :: xs ++ y :: ys), false) else none
  | _ => none
theorem p_addE : PrimOk W (r2 (rCatA W.K)) gAddE := by
  intro av ts vs H Q res rt e tb tr q
  unfold gAddE at e
  split at e
  · split at e
    · rename_i h
      cases e
      obtain ⟨v, w, rfl, h1, h2⟩ := rt.two
      obtain ⟨a, xs, rfl, s1, r1⟩ := rt_tup h1
      obtain ⟨b, ys, rfl, s2, r2⟩ := rt_tup h2
      have e1 : xs = [] := by simpa only [RpL] using r1
      subst e1
      refine ⟨_, _, rfl, a, b, [], ys, rfl, rfl, s1.sq, s2.sq, by rw [List.length_nil, Nat.zero_add, r2.length]; exact h, fun _ => q _ _ (.same tb ?_), fun z => absurd rfl z, fun z => absurd rfl z⟩
      simp only [Rp]
      exact ⟨b, ys, rfl, s2, r2⟩
    · cases e
  · split at e
    · rename_i h
      cases e
      obtain ⟨v, w, rfl, h1, h2⟩ := rt.two
      obtain ⟨a, xs, rfl, s1, r1⟩ := rt_tup h1
      obtain ⟨b, ys, rfl, s2, r2⟩ := rt_tup h2
      have l1 := r1.length
      have l2 := r2.length
      simp only [List.length_cons] at l1 l2
      have n1 : xs ≠ [] := fun z => by rw [z] at l1; simp at l1
      have n2 : ys ≠ [] := fun z => by rw [z] at l2; simp at l2
      exact ⟨_, _, rfl, a, b, xs, ys, rfl, rfl, s1.sq, s2.sq, by rw [l1, l2]; show _ ≤ lim; omega, fun z => absurd z n1, fun _ z => absurd z n2, fun _ _ p hp => q _ _ (.tup tr tb hp (r1.append r2))⟩
    · cases e
  · cases e
theorem e_addE (ha : EO X W a oa) (hb : EO X W b ob) (hK : X.K = W.K := by rfl) : EE X W (.BinOp a .Add b pos) (primM [oa, ob] gAddE) := e_op2 op_catA (hK ▸ p_addE) ha hb
/-! ### is not True -/
def gIsnB : List T → Option Res
  | [.bl u, .bl v] => some (.bl (!decide (u = v)), false)
  | _ => none
theorem p_isnB : PrimOk W (r2 fun x y H Q => ∃ a b, x = .bl a ∧ y = .bl b ∧ Q (.bl (!decide (a = b))) H) gIsnB := by
  intro av ts vs H Q res rt e tb tr q
  unfold gIsnB at e
  split at e
  · cases e
    obtain ⟨v, w, rfl, h1, h2⟩ := rt.two
    exact ⟨_, _, by rw [rt_bl h1, rt_bl h2], _, _, rfl, rfl, q _ _ (.bl tb)⟩
  · cases e
theorem t_isnB (ha : EO X W a oa) (hb : EO X W b ob) (hm : behindInMarks .IsNot b = false := by rfl) : ET X W (.Compare a [.IsNot] [b] pos) (primM [oa, ob] gIsnB) := t_cmp2 op_isnot_bl p_isnB ha hb hm
theorem e_isnB (ha : EO X W a oa) (hb : EO X W b ob) (hm : behindInMarks .IsNot b = false := by rfl) : EE X W (.Compare a [.IsNot] [b] pos) (primM [oa, ob] gIsnB) := e_cmp2 op_isnot_bl p_isnB ha hb hm
end
end Rv
end

section
set_option Elab.async false
set_option autoImplicit false
set_option linter.all false
set_option maxRecDepth 100000
set_option maxHeartbeats 1000000
/-! Rv32: how many unlike ints a tuple holds; the greatest of a dict's values. -/
namespace Rv
open PySem PySem.Spec L2 LamX NdefX
open PyProof.Rows hiding St
theorem ddup_spec : ∀ (l acc : List Int), acc.Nodup → (l.foldl ddup acc).Nodup ∧ ∀ x, x ∈ l.foldl ddup acc ↔ x ∈ acc ∨ x ∈ l
  | [], acc, h => ⟨h, by simp⟩
  | y :: l, acc, h => by
    have hn : (ddup acc y).Nodup ∧ ∀ x, x ∈ ddup acc y ↔ x ∈ acc ∨ x = y := by
      unfold ddup
      by_cases q : y ∈ acc
      · rw [if_pos (by simpa using q)]
        exact ⟨h, fun x => ⟨.inl, fun z => z.elim id fun z => z ▸ q⟩⟩
      · rw [if_neg (by simpa using q)]
        refine ⟨?_, fun x => by simp⟩
        rw [List.nodup_append]
        exact ⟨h, by simp, fun a ha b hb e => q (by rw [List.mem_singleton.mp hb] at e; exact e ▸ ha)⟩
    obtain ⟨h1, h2⟩ := ddup_spec l (ddup acc y) hn.1
    rw [List.foldl_cons]
    refine ⟨h1, fun x => ?_⟩
    rw [h2, hn.2, List.mem_cons]
    constructor
    · rintro ((z | z) | z)
      · exact .inl z
      · exact .inr (.inl z)
      · exact .inr (.inr z)
    · rintro (z | z | z)
      · exact .inl (.inl z)
      · exact .inl (.inr z)
      · exact .inr z
theorem nset_of {l ns : List Int} (hl : l.Nodup) (h : ∀ x, x ∈ l ↔ x ∈ ns) : l.length = nset ns := by
  obtain ⟨h1, h2⟩ := ddup_spec ns [] (by simp)
  exact Nat.le_antisymm (nodup_le hl fun x hx => (h2 x).mpr (.inr ((h x).mp hx))) (nodup_le h1 fun x hx => (h x).mpr (((h2 x).mp hx).resolve_left (by simp)))
section
variable {X : Cx} {W : Wd} {a b c e o : Expr} {es : List Expr} {pos p p2 q2 apos mpos : Pos} {oa ob : Op} {f : M}
def tLenSetT (K : PySem.W.Frag) (ta : TE) : TE := fun σ H Q => ta σ H fun x H1 => ∃ (l : Addr) (ns : List Int), x = .ref l ∧ SqT K H1 l (ns.map V.int) ∧ ns.length ≤ 4000 ∧ Q (.int (nset ns : Nat)) H1
theorem pe_lenSetT {ta : TE} (hg : Gl X "len") (hm : X.mg "len" = none) (hg2 : Gl X "set") (hm2 : X.mg "set" = none) (ha : PE X a ta) (hc : X.calm = true) (na : starEach [a] X.env = (false, eval a X.env) :: starEach [] X.env) : PE X (.Call (.Name "len" p) [.Call (.Name "set" p2) [a] [] q2] [] pos) (tLenSetT X.K ta) := by
  refine ⟨fun pins s σ H Q I h => Call_ (ld_blt I hg hm boot_len (PyProof.Rows.callWith_builtin1 (PyProof.Rows.args_cons (Call_ (ld_blt I hg2 hm2 boot_set (PyProof.Rows.callWith_type1 (PyProof.Rows.args_cons (thn (ha.run pins s σ H _ I h) fun v s1 w => PyProof.Rows.args_nil ?_) na) na rfl))) rfl) rfl rfl))⟩
  obtain ⟨x, H1, I1, rx, l, ns, rfl, hq, hl, q1⟩ := w
  cases rx
  obtain ⟨its, ri, pl, _⟩ := I1.tuple hq
  refine call_set_tupI ns (I1.ok.hd hc) pl (by simpa using RZ.intsAre_vals ri) (by unfold scanBound; omega) fun h' tk n hS hn hk => ?_
  refine PyProof.Rows.args_nil ?_
  obtain ⟨ob, es, ep, t, ho, hex, hd, _, hnd, hmem, hsb, hf, hsz, _⟩ := hS
  have I2 : Inv X pins σ H1 { s1 with heap := h', toks := tk } := I1.kept hk
  have hcount : n = nset ns := by
    rw [← hsz]
    have := nset_of (ns := ns) hnd fun x => by rw [← hmem x, decide_eq_true_iff]
    rw [List.length_map, Array.length_toList] at this
    exact this
  exact call_len_set ho hex hd hf (by omega) ⟨.int (nset ns : Nat), H1, I2.tok _, ⟨_, by rw [hsz, hcount]⟩, q1⟩
def gLenSetT : List T → Option Res
  | [.tup _ l] => (match intsOf l with
    | some ns => if ns.length ≤ 4000 then some (.int (nset ns : Nat), false) else none
    | none => none)
  | _ => none
theorem p_lenSetT : PrimOk W (fun vs H Q => ∃ x, vs = [x] ∧ ∃ (l : Addr) (ns : List Int), x = .ref l ∧ SqT W.K H l (ns.map V.int) ∧ ns.length ≤ 4000 ∧ Q (.int (nset ns : Nat)) H) gLenSetT := by
  intro av ts vs H Q res rt e tb tr q
  unfold gLenSetT at e
  split at e
  · split at e
    · rename_i k l ns hn
      split at e
      · rename_i h
        cases e
        obtain ⟨v, rfl, h0⟩ := rt.one
        obtain ⟨a, xs, rfl, s, r⟩ := rt_tup h0
        rw [rpl_int hn r] at s
        exact ⟨_, rfl, a, ns, rfl, s.sq, h, q _ _ (.int tb)⟩
      · cases e
    · cases e
  · cases e
theorem e_lenSetT (hm : X.mg "len" = none) (hm2 : X.mg "set" = none) (ha : EO X W a oa) (hc : X.calm = true := by rfl) (hg : Gl X "len" := by rfl) (hg2 : Gl X "set" := by rfl) (na : starEach [a] X.env = (false, eval a X.env) :: starEach [] X.env := by rfl) (hK : X.K = W.K := by rfl) :
    EE X W (.Call (.Name "len" p) [.Call (.Name "set" p2) [a] [] q2] [] pos) (primM [oa] gLenSetT) :=
  PE.imp (pe_lenSetT hg hm hg2 hm2 ha hc na) fun σ H Q q => by
    have h' : tO W oa σ H fun v H1 => ∃ x, [v] = [x] ∧ ∃ (l : Addr) (ns : List Int), x = .ref l ∧ SqT W.K H1 l (ns.map V.int) ∧ ns.length ≤ 4000 ∧ Q (.int (nset ns : Nat)) H1 := prim_ok p_lenSetT q
    refine tO_mono h' fun v H1 ⟨x, e, l, ns, h1, h2, h3, q⟩ => ?_
    cases e
    rw [hK]
    exact ⟨l, ns, h1, h2, h3, q⟩
/-! ### max(d.values()) -/
def tMaxVals (td : TE) : TE := fun σ H Q => td σ H fun x H1 => ∃ d kvs ns, x = V.ref d ∧ H1 d = some (.dK kvs) ∧ kvs.map (·.2) = ns.map V.int ∧ ns ≠ [] ∧ ∀ m, m ∈ ns → (∀ j ∈ ns, j ≤ m) → Q (.int m) H1
theorem pe_maxVals {td : TE} (hc : X.calm = true) (hg : Gl X "max") (hm : X.mg "max" = none) (hd : PE X o td) (hb : attributeBase o "values" X.env (eval o X.env) = eval o X.env) (hl : (apos.endLine == mpos.line) = true)
    (hs : starEach [Expr.Call (.Attribute o "values" apos) [] [] mpos] X.env = [(false, eval (Expr.Call (.Attribute o "values" apos) [] [] mpos) X.env)]) :
    PE X (.Call (.Name "max" p) [.Call (.Attribute o "values" apos) [] [] mpos] [] pos) (tMaxVals td) := by
  refine ⟨fun pins s σ H Q I h => wpAny_Call_Name_kw (ld_blt I hg hm (u := .builtin "max") (by first | rfl | decide +kernel) ?_ (by first | decide +kernel | decide) (by first | decide +kernel | decide))⟩
  rw [hs]
  refine PySem.callWith_builtin1 (wpAny_Call_method0_late hb hl (thn (hd.run pins s σ H _ I h) fun v s1 w => ?_))
  obtain ⟨x, H1, I1, rx, d, kvs, ns, rfl, hda, hv, hne, q⟩ := w
  obtain rfl : v = Value.ref d := rx
  obtain ⟨_, lo, vs, rel, dof⟩ := dk_of I1.hok hda
  obtain ⟨ep, dat⟩ := dof.dictAt
  obtain ⟨ob, es, ho, ex, _⟩ := id dat
  refine ⟨"dict", "dict.values", F.plainAttrs_dict, F.slot_dict_values, F.type_dict_values, ⟨ob, ho, ex.1⟩, fun b e => by cases e; exact ⟨ob, ho, ex.2.1⟩, Calls.callWith_builtin rfl (PySem.evalArgs_none ?_)⟩
  refine call_meetsIn F.slot_dict_values ⟨ob, ho, ex.1⟩ F.entry_dict_values (F.args_dict_values_1 _) (meets_dict_values (mixKind X.prog X.w) d lo) ⟨⟨vs, dof⟩, ?_⟩
  obtain ⟨hp, hhp⟩ : ∃ hp : Heap, hp = s1.heap.push { cls := .type "dict_values", data := .fields #[.ref d] } := ⟨_, rfl⟩
  have up : ∀ b u, s1.heap.get? b = some u → hp.get? b = some u := fun b u z => by rw [hhp]; exact Heap.get?_push_of_some _ z
  have dat1 : hp.DictAt (mixKind X.prog X.w) d vs ep := dat.keep up
  have hlv : vs.length = ns.length := by
    have z := congrArg List.length hv
    simp only [List.length_map] at z
    rw [← z]
    exact (KV.length rel).symm
  have hlen : 0 < vs.length := by
    have := List.length_pos_iff.mpr hne
    omega
  have hval : ∀ (i : Nat) (v : Value), (∃ k, vs[i]? = some (k, v)) → ∃ t, v = Value.int (ns.getD i 0) t := by
    rintro i v ⟨k, hk⟩
    obtain ⟨y, h1, h2⟩ := KV.at' rel hk
    have z : (kvs.map (·.2))[i]? = some y := by rw [List.getElem?_map, h1]; rfl
    rw [hv, List.getElem?_map] at z
    obtain ⟨j, hj, rfl⟩ := Option.map_eq_some_iff.mp z
    obtain ⟨t, rfl⟩ := h2
    exact ⟨t, by rw [List.getD_eq_getElem?_getD, hj]; rfl⟩
  have hlt : d < s1.heap.objs.size := Heap.lt_size ho
  have hsz : hp.objs.size = s1.heap.objs.size + 1 := by rw [hhp]; exact Heap.size_push _ _
  have hview : hp.get? s1.heap.objs.size = some { cls := .type "dict_values", data := .fields #[.ref d] } := by rw [hhp]; exact Heap.get?_push_size _ rfl
  rw [← hhp]
  refine call_max_walk (wpAny_pyIter_values (v := s1.heap.objs.size) (d := d) ⟨_, hview, rfl, rfl⟩ dat1 ?_)
  refine ⟨_, _, _, _, _, _, _, rfl, Walks.dictValues (knd := mixKind X.prog X.w) (A := X.A.in1) (I.ok.hd hc) hp.objs.size d (by rw [hsz]; exact Nat.ne_of_lt (Nat.lt_succ_of_lt hlt)) vs ep,
    ⟨⟨_, Heap.get?_push_size _ rfl, rfl, rfl⟩, dat1.keep fun b u z => Heap.get?_push_of_some _ z⟩, fun b hm => ?_, hlen, CmpOf.ints_gt (fun i => ns.getD i 0) hval, fun v h' tk hP hk => ?_⟩
  · show b < (hp.push _).objs.size
    rw [Heap.size_push, hsz]
    rcases List.mem_cons.mp hm with z | z
    · rw [z, hsz]
      exact Nat.lt_succ_self _
    · rw [List.mem_singleton.mp z]
      exact Nat.lt_succ_of_lt (Nat.lt_succ_of_lt hlt)
  · obtain ⟨t, rfl⟩ := hval _ v hP
    obtain ⟨b1, b2⟩ := argBest_gt (fun i => ns.getD i 0) (vs.length - 1)
    have hlt2 : argBest (fun i j => decide (ns.getD i 0 > ns.getD j 0)) (vs.length - 1) < ns.length := by omega
    refine ⟨.int _, H1, I1.kept (t' := tk) fun b u z => hk b u (fun hm => ?_) (Heap.get?_push_of_some _ (up b u z)), ⟨t, rfl⟩, q _ ?_ fun j hj => ?_⟩
    · have z1 := List.mem_singleton.mp hm
      have z2 := Heap.lt_size z
      rw [z1, hsz] at z2
      exact absurd z2 (Nat.not_lt.mpr (Nat.le_succ _))
    · rw [List.getD_eq_getElem?_getD, List.getElem?_eq_getElem hlt2]
      exact List.getElem_mem hlt2
    · obtain ⟨i, hi, rfl⟩ := List.mem_iff_getElem.mp hj
      have z : ns.getD i 0 = ns[i] := by rw [List.getD_eq_getElem?_getD, List.getElem?_eq_getElem hi]; rfl
      rw [← z]
      exact b2 i (by omega)
def gMaxV : List T → Option Res
  | [.dic _ l] => (match intsOf l with
    | some ns => if ns ≠ [] then some (.int (topI ns), false) else none
    | none => none)
  | _ => none
theorem p_maxV : PrimOk W (fun vs H Q => ∃ x, vs = [x] ∧ ∃ d kvs ns, x = V.ref d ∧ H d = some (.dK kvs) ∧ kvs.map (·.2) = ns.map V.int ∧ ns ≠ [] ∧ ∀ m, m ∈ ns → (∀ j ∈ ns, j ≤ m) → Q (.int m) H) gMaxV := by
  intro av ts vs H Q res rt e tb tr q
  unfold gMaxV at e
  split at e
  · split at e
    · rename_i ks l ns hn
      split at e
      · rename_i h
        cases e
        obtain ⟨v, rfl, d, kvs, rfl, s, f, r⟩ := rt.one
        exact ⟨_, rfl, d, kvs, ns, rfl, s, rpl_int hn r, h, fun m h1 h2 => by rw [← topI_eq h1 h2]; exact q _ _ (.int tb)⟩
      · cases e
    · cases e
  · cases e
theorem e_maxV (hm : X.mg "max" = none) (ha : EO X W o oa) (hc : X.calm = true := by rfl) (hg : Gl X "max" := by rfl) (hb : attributeBase o "values" X.env (eval o X.env) = eval o X.env := by rfl) (hl : (apos.endLine == mpos.line) = true := by rfl)
    (hs : starEach [Expr.Call (.Attribute o "values" apos) [] [] mpos] X.env = [(false, eval (Expr.Call (.Attribute o "values" apos) [] [] mpos) X.env)] := by rfl) :
    EE X W (.Call (.Name "max" p) [.Call (.Attribute o "values" apos) [] [] mpos] [] pos) (primM [oa] gMaxV) :=
  PE.imp (pe_maxVals hc hg hm ha hb hl hs) fun σ H Q q => by
    have h' : tO W oa σ H fun v H1 => ∃ x, [v] = [x] ∧ ∃ d kvs ns, x = V.ref d ∧ H1 d = some (.dK kvs) ∧ kvs.map (·.2) = ns.map V.int ∧ ns ≠ [] ∧ ∀ m, m ∈ ns → (∀ j ∈ ns, j ≤ m) → Q (.int m) H1 := prim_ok p_maxV q
    exact tO_mono h' fun v H1 ⟨x, e, z⟩ => by cases e; exact z
end
end Rv
end

section
set_option Elab.async false
set_option autoImplicit false
set_option linter.all false
set_option maxRecDepth 100000
set_option maxHeartbeats 1000000
/-! Rv33: plain: colourings of so many colours; walks. -/
namespace Rv
open PySem
/-- those with up to j colours, out of those with up to m -/
theorem pc_filter {j m : Nat} (h : j ≤ m) : ∀ {n : Nat}, (pc m n).filter (fun x => decide (x.2 ≤ j)) = pc j n
  | 0 => by simp [pc]
  | n + 1 => by
    have ih := pc_filter (n := n) h
    have key : ∀ (l : List (List Nat × Nat)), (l.flatMap fun x => (List.range (min (x.2 + 1) m)).map fun c => (x.1 ++ [c], max x.2 (c + 1))).filter (fun x => decide (x.2 ≤ j)) = (l.filter fun x => decide (x.2 ≤ j)).flatMap fun x => (List.range (min (x.2 + 1) j)).map fun c => (x.1 ++ [c], max x.2 (c + 1)) := by
      intro l
      induction l with
      | nil => rfl
      | cons x l ihl =>
        rw [List.flatMap_cons, List.filter_append, ihl, List.filter_cons]
        by_cases hx : x.2 ≤ j
        · rw [if_pos (by simpa using hx), List.flatMap_cons]
          congr 1
          rw [List.filter_map]
          have e : ∀ k : Nat, (List.range k).filter ((fun x : List Nat × Nat => decide (x.2 ≤ j)) ∘ fun c => (x.1 ++ [c], max x.2 (c + 1))) = List.range (min k j) := by
            intro k
            induction k with
            | zero => simp
            | succ k ihk =>
              rw [List.range_succ, List.filter_append, ihk]
              by_cases hk : k < j
              · have e1 : min (k + 1) j = min k j + 1 := by omega
                have e2 : min k j = k := by omega
                have e3 : max x.2 (k + 1) ≤ j := by omega
                rw [e1, e2, List.range_succ]
                simp [e3]
              · have e1 : min (k + 1) j = min k j := by omega
                have e3 : ¬ max x.2 (k + 1) ≤ j := by omega
                rw [e1]
                simp [e3]
          rw [e]
          congr 2
          omega
        · rw [if_neg (by simpa using hx)]
          have : ((List.range (min (x.2 + 1) m)).map fun c => (x.1 ++ [c], max x.2 (c + 1))).filter (fun x => decide (x.2 ≤ j)) = [] := by
            rw [List.filter_eq_nil_iff]
            intro y hy
            obtain ⟨c, _, rfl⟩ := List.mem_map.mp hy
            simp only [decide_eq_true_eq]
            omega
          rw [this, List.nil_append]
    simp only [pc]
    rw [key, ih]
theorem pc_same {j m n : Nat} {q : List Nat × Nat → Bool} (h : j ≤ m) : ((pc m n).filter q).filter (fun x => decide (x.2 = j)) = (pc j n).filter fun x => decide (x.2 = j) && q x := by
  rw [← pc_filter (n := n) h, List.filter_filter, List.filter_filter]
  refine List.filter_congr fun x _ => ?_
  by_cases hx : x.2 = j
  · simp [hx]
  · simp [hx]
/-- the colours are just those less than the number -/
theorem pc_cols {m : Nat} : ∀ {n : Nat} {x : List Nat × Nat}, x ∈ pc m n → ∀ c, c ∈ x.1 ↔ c < x.2
  | 0, x, h, c => by
    simp only [pc, List.mem_singleton] at h
    subst h
    simp
  | n + 1, x, h, c => by
    simp only [pc, List.mem_flatMap, List.mem_map, List.mem_range] at h
    obtain ⟨y, hy, d, hd, rfl⟩ := h
    have ih := pc_cols hy c
    simp only [List.mem_append, List.mem_singleton]
    rw [ih]
    omega
theorem pc_nset {m n : Nat} {x : List Nat × Nat} (h : x ∈ pc m n) : nset (x.1.map fun i : Nat => (i : Int)) = x.2 := by
  have h1 : ((List.range x.2).map fun i : Nat => (i : Int)).Nodup := nodup_of_inj List.nodup_range fun a _ b _ e => Int.natCast_inj.mp e
  have := nset_of (ns := x.1.map fun i : Nat => (i : Int)) h1 fun z => by
    simp only [List.mem_map, List.mem_range]
    constructor
    · rintro ⟨i, hi, rfl⟩
      exact ⟨i, (pc_cols h i).mpr hi, rfl⟩
    · rintro ⟨i, hi, rfl⟩
      exact ⟨i, (pc_cols h i).mp hi, rfl⟩
  rw [List.length_map, List.length_range] at this
  exact this.symm
theorem pc_top {m n : Nat} {x : List Nat × Nat} (h : x ∈ pc m n) (hx : x.1 ≠ []) : topI (x.1.map fun i : Nat => (i : Int)) + 1 = (x.2 : Int) := by
  obtain ⟨c, l, hc⟩ := List.exists_cons_of_ne_nil hx
  have h0 : 0 < x.2 := by
    have := (pc_cols h c).mp (by rw [hc]; exact List.mem_cons_self)
    omega
  have := topI_eq (l := x.1.map fun i : Nat => (i : Int)) (m := ((x.2 - 1 : Nat) : Int)) (List.mem_map.mpr ⟨x.2 - 1, (pc_cols h _).mpr (by omega), rfl⟩) fun y hy => by
    obtain ⟨i, hi, rfl⟩ := List.mem_map.mp hy
    have := (pc_cols h i).mp hi
    omega
  rw [this]
  omega
theorem pc_ne {m n : Nat} {x : List Nat × Nat} (h : x ∈ pc m (n + 1)) : x.1 ≠ [] := fun z => by
  have := (pc_mem h).1
  rw [z] at this
  simp at this
theorem pc_nil {m : Nat} {n : Nat} {x : List Nat × Nat} (h : x ∈ pc m n) (hx : x.1 = []) : x.2 = 0 := by
  apply Classical.byContradiction
  intro hz
  have := (pc_cols h 0).mpr (by omega)
  rw [hx] at this
  cases this
/-! ### walks of so many steps -/
inductive Walk (E : List (Str × Str)) (a : Str) : Nat → Str → Prop where
  | zero : Walk E a 0 a
  | step {k : Nat} {x y : Str} : Walk E a k x → adj E x y → Walk E a (k + 1) y
variable {E : List (Str × Str)} {P : List Str} {a b x y : Str} {w : List Str} {k : Nat}
theorem Walk.cons (h : adj E a x) (q : Walk E x k y) : Walk E a (k + 1) y := by
  induction q with
  | zero => exact .step .zero h
  | step _ e ih => exact .step ih e
theorem Walk.symm (h : Walk E a k x) : Walk E x k a := by
  induction h with
  | zero => exact .zero
  | step _ e ih => exact ih.cons e.symm
theorem Path.walk (h : Path E a w x) : Walk E a (w.length - 1) x := by
  induction h with
  | one => exact .zero
  | @snoc w x y h e _ ih =>
    have hp := h.len_pos
    rw [List.length_append, List.length_singleton]
    have : w.length + 1 - 1 = (w.length - 1) + 1 := by omega
    rw [this]
    exact ih.step e
/-- found so far with how far, at level k -/
structure BF (E : List (Str × Str)) (P : List Str) (p : Str) (k : Nat) (D : List (Str × Nat)) (line : List Str) : Prop where
  nd : (D.map (·.1)).Nodup
  inP : ∀ e ∈ D, e.1 ∈ P
  walk : ∀ e ∈ D, Walk E p e.2 e.1
  le : ∀ e ∈ D, e.2 ≤ k
  near : ∀ j y, j ≤ k → Walk E p j y → ∃ e ∈ D, e.1 = y ∧ e.2 ≤ j
  line1 : ∀ x ∈ line, (x, k) ∈ D
  line2 : ∀ e ∈ D, e.2 = k → e.1 ∈ line
/-- while the ties of the places before rest are looked at: later holds the new ones -/
structure BG (E : List (Str × Str)) (P : List Str) (p : Str) (k : Nat) (D : List (Str × Nat)) (line done : List Str) (nb : List Str) (later : List Str) : Prop where
  nd : (D.map (·.1)).Nodup
  inP : ∀ e ∈ D, e.1 ∈ P
  walk : ∀ e ∈ D, Walk E p e.2 e.1
  le : ∀ e ∈ D, e.2 ≤ k + 1
  near : ∀ j y, j ≤ k → Walk E p j y → ∃ e ∈ D, e.1 = y ∧ e.2 ≤ j
  line1 : ∀ x ∈ line, (x, k) ∈ D
  line2 : ∀ e ∈ D, e.2 = k → e.1 ∈ line
  shut : ∀ x ∈ done, ∀ y, adj E x y → ∃ e ∈ D, e.1 = y
  nbs : ∀ y ∈ nb, ∃ e ∈ D, e.1 = y
  later1 : ∀ x ∈ later, (x, k + 1) ∈ D
  later2 : ∀ e ∈ D, e.2 = k + 1 → e.1 ∈ later
theorem BF.start (h : a ∈ P) : BF E P a 0 [(a, 0)] [a] where
  nd := by simp
  inP := fun e he => by rw [List.mem_singleton.mp he]; exact h
  walk := fun e he => by rw [List.mem_singleton.mp he]; exact .zero
  le := fun e he => by rw [List.mem_singleton.mp he]; exact Nat.le_refl _
  near := fun j y hj hw => by
    have : j = 0 := by omega
    subst this
    cases hw
    exact ⟨_, List.mem_singleton.mpr rfl, rfl, Nat.le_refl _⟩
  line1 := fun x hx => by rw [List.mem_singleton.mp hx]; exact List.mem_singleton.mpr rfl
  line2 := fun e he _ => by rw [List.mem_singleton.mp he]; exact List.mem_singleton.mpr rfl
variable {D : List (Str × Nat)} {line done nb later : List Str}
theorem BF.begin (h : BF E P a k D line) : BG E P a k D line [] [] [] where
  nd := h.nd
  inP := h.inP
  walk := h.walk
  le := fun e he => Nat.le_succ_of_le (h.le e he)
  near := h.near
  line1 := h.line1
  line2 := h.line2
  shut := fun x hx => nomatch hx
  nbs := fun x hx => nomatch hx
  later1 := fun x hx => nomatch hx
  later2 := fun e he q => absurd (h.le e he) (by omega)
theorem BG.old (h : BG E P a k D line done nb later) (hy : ∃ e ∈ D, e.1 = y) : BG E P a k D line done (nb ++ [y]) later :=
  { h with nbs := fun z hz => (List.mem_append.mp hz).elim (h.nbs z) fun q => by rw [List.mem_singleton.mp q]; exact hy }
theorem BG.new (h : BG E P a k D line done nb later) (hx : x ∈ line) (e : adj E x y) (hE : EdgesIn E P) (hy : ¬ ∃ e ∈ D, e.1 = y) : BG E P a k (D ++ [(y, k + 1)]) line done (nb ++ [y]) (later ++ [y]) where
  nd := by
    rw [List.map_append, List.nodup_append]
    refine ⟨h.nd, by simp, fun u hu v hv q => hy ?_⟩
    obtain ⟨z, hz, rfl⟩ := List.mem_map.mp hu
    simp only [List.map_cons, List.map_nil, List.mem_singleton] at hv
    exact ⟨z, hz, q.trans hv⟩
  inP := fun z hz => (List.mem_append.mp hz).elim (h.inP z) fun q => by rw [List.mem_singleton.mp q]; exact (hE.adj e).2
  walk := fun z hz => (List.mem_append.mp hz).elim (h.walk z) fun q => by rw [List.mem_singleton.mp q]; exact (h.walk _ (h.line1 x hx)).step e
  le := fun z hz => (List.mem_append.mp hz).elim (h.le z) fun q => by rw [List.mem_singleton.mp q]; exact Nat.le_refl _
  near := fun j z hj hw => by
    obtain ⟨u, hu, q⟩ := h.near j z hj hw
    exact ⟨u, List.mem_append_left _ hu, q⟩
  line1 := fun z hz => List.mem_append_left _ (h.line1 z hz)
  line2 := fun z hz q => (List.mem_append.mp hz).elim (fun w => h.line2 z w q) fun w => by rw [List.mem_singleton.mp w] at q; exact absurd q (by simp)
  shut := fun z hz u hu => by
    obtain ⟨v, hv, q⟩ := h.shut z hz u hu
    exact ⟨v, List.mem_append_left _ hv, q⟩
  nbs := fun z hz => (List.mem_append.mp hz).elim (fun q => by
    obtain ⟨v, hv, q⟩ := h.nbs z q
    exact ⟨v, List.mem_append_left _ hv, q⟩) fun q => ⟨(y, k + 1), by simp, (List.mem_singleton.mp q).symm⟩
  later1 := fun z hz => (List.mem_append.mp hz).elim (fun q => List.mem_append_left _ (h.later1 z q)) fun q => by rw [List.mem_singleton.mp q]; simp
  later2 := fun z hz q => (List.mem_append.mp hz).elim (fun w => List.mem_append_left _ (h.later2 z w q)) fun w => by rw [List.mem_singleton.mp w]; simp
theorem BG.shutAll (h : BG E P a k D line done (nbrs E x) later) : BG E P a k D line (done ++ [x]) [] later :=
  { h with
    shut := fun z hz y hy => (List.mem_append.mp hz).elim (fun q => h.shut z q y hy) fun q => by
      rw [List.mem_singleton.mp q] at hy
      exact h.nbs y (mem_nbrs.mpr hy)
    nbs := fun z hz => nomatch hz }
theorem BG.end (h : BG E P a k D line line [] later) : BF E P a (k + 1) D later where
  nd := h.nd
  inP := h.inP
  walk := h.walk
  le := h.le
  near := fun j y hj hw => by
    by_cases q : j ≤ k
    · exact h.near j y q hw
    · have : j = k + 1 := by omega
      subst this
      cases hw with
      | @step _ x _ hx e =>
        obtain ⟨u, hu, rfl, hle⟩ := h.near k x (Nat.le_refl _) hx
        by_cases q2 : u.2 = k
        · obtain ⟨v, hv, rfl⟩ := h.shut u.1 (h.line2 u hu q2) y e
          exact ⟨v, hv, rfl, h.le v hv⟩
        · obtain ⟨v, hv, rfl, hv2⟩ := h.near (u.2 + 1) y (by omega) ((h.walk u hu).step e)
          exact ⟨v, hv, rfl, by omega⟩
  line1 := h.later1
  line2 := h.later2
/-- all walks are no shorter than what is told -/
theorem BF.fin (h : BF E P a k D []) : ∀ j y, Walk E a j y → ∃ e ∈ D, e.1 = y ∧ e.2 ≤ j := by
  intro j y hw
  induction hw with
  | zero => exact h.near 0 a (Nat.zero_le _) .zero
  | @step j x y _ e ih =>
    obtain ⟨u, hu, rfl, hle⟩ := ih
    have hlt : u.2 < k := by
      have h1 := h.le u hu
      have h2 : u.2 ≠ k := fun q => nomatch h.line2 u hu q
      omega
    obtain ⟨v, hv, rfl, hv2⟩ := h.near (u.2 + 1) y (by omega) ((h.walk u hu).step e)
    exact ⟨v, hv, rfl, by omega⟩
end Rv
end

section
set_option Elab.async false
set_option autoImplicit false
set_option linter.all false
set_option maxRecDepth 100000
set_option maxHeartbeats 1000000
namespace Rv
open PySem PySem.Spec L2 LamX NdefX
open PyProof.Rows hiding St
def words32 : List Str := ["all", "back", "book", "bright", "case", "chance", "colour", "cut", "draw", "first", "game", "in", "none", "of", "once", "open", "out", "paint", "place", "proper", "quit", "rule", "short", "single", "take", "tie", "two", "undo", "way", "web", "win", "yes"]
/-! ### the texts of the defs -/
def topS (i : Nat) : Stmt := PySem.Challenge.pw_rainbowways_k34_whole_fewest_colours_of.main.body.getD i (.Pass ⟨0, 0, 0, 0⟩)
abbrev st_is_whole : Stmt := topS 4
theorem sc_is_whole : FnScope ["value"] ["value"] (L2.defScope st_is_whole) := ⟨rfl, rfl, rfl, by decide +kernel, rfl, by decide +kernel, by decide +kernel⟩
theorem bd_is_whole : bindB st_is_whole ["value"] := fun x q kV doc pm an cdv ct us hl => match us, hl with | [_], _ => rfl
abbrev st_is_between : Stmt := topS 5
theorem sc_is_between : FnScope ["value", "least", "most"] ["value", "least", "most"] (L2.defScope st_is_between) := ⟨rfl, rfl, rfl, by decide +kernel, rfl, by decide +kernel, by decide +kernel⟩
theorem bd_is_between : bindB st_is_between ["value", "least", "most"] := fun x q kV doc pm an cdv ct us hl => match us, hl with | [_, _, _], _ => rfl
abbrev st_is_one_of : Stmt := topS 6
theorem sc_is_one_of : FnScope ["value", "words"] ["value", "words"] (L2.defScope st_is_one_of) := ⟨rfl, rfl, rfl, by decide +kernel, rfl, by decide +kernel, by decide +kernel⟩
theorem bd_is_one_of : bindB st_is_one_of ["value", "words"] := fun x q kV doc pm an cdv ct us hl => match us, hl with | [_, _], _ => rfl
abbrev st_is_word : Stmt := topS 7
theorem sc_is_word : FnScope ["value", "sign"] ["value"] (L2.defScope st_is_word) := ⟨rfl, rfl, rfl, by decide +kernel, rfl, by decide +kernel, by decide +kernel⟩
theorem bd_is_word : bindB st_is_word ["value"] := fun x q kV doc pm an cdv ct us hl => match us, hl with | [_], _ => rfl
abbrev st_is_name : Stmt := topS 8
theorem sc_is_name : FnScope ["value"] ["value"] (L2.defScope st_is_name) := ⟨rfl, rfl, rfl, by decide +kernel, rfl, by decide +kernel, by decide +kernel⟩
theorem bd_is_name : bindB st_is_name ["value"] := fun x q kV doc pm an cdv ct us hl => match us, hl with | [_], _ => rfl
abbrev st_is_tuple_of : Stmt := topS 9
theorem sc_is_tuple_of : FnScope ["value", "many"] ["value", "many"] (L2.defScope st_is_tuple_of) := ⟨rfl, rfl, rfl, by decide +kernel, rfl, by decide +kernel, by decide +kernel⟩
theorem bd_is_tuple_of : bindB st_is_tuple_of ["value", "many"] := fun x q kV doc pm an cdv ct us hl => match us, hl with | [_, _], _ => rfl
abbrev st_is_pair : Stmt := topS 10
theorem sc_is_pair : FnScope ["value"] ["value"] (L2.defScope st_is_pair) := ⟨rfl, rfl, rfl, by decide +kernel, rfl, by decide +kernel, by decide +kernel⟩
theorem bd_is_pair : bindB st_is_pair ["value"] := fun x q kV doc pm an cdv ct us hl => match us, hl with | [_], _ => rfl
abbrev st_wrong_in : Stmt := topS 11
theorem sc_wrong_in : FnScope ["value", "least", "most", "is_right", "index", "each"] ["value", "least", "most", "is_right"] (L2.defScope st_wrong_in) := ⟨rfl, rfl, rfl, by decide +kernel, rfl, by decide +kernel, by decide +kernel⟩
theorem bd_wrong_in : bindB st_wrong_in ["value", "least", "most", "is_right"] := fun x q kV doc pm an cdv ct us hl => match us, hl with | [_, _, _, _], _ => rfl
abbrev st_is_colour : Stmt := topS 25
theorem sc_is_colour : FnScope ["value"] ["value"] (L2.defScope st_is_colour) := ⟨rfl, rfl, rfl, by decide +kernel, rfl, by decide +kernel, by decide +kernel⟩
theorem bd_is_colour : bindB st_is_colour ["value"] := fun x q kV doc pm an cdv ct us hl => match us, hl with | [_], _ => rfl
abbrev st_wrong_in_all : Stmt := topS 12
theorem sc_wrong_in_all : FnScope ["value", "many", "is_right"] ["value", "many", "is_right"] (L2.defScope st_wrong_in_all) := ⟨rfl, rfl, rfl, by decide +kernel, rfl, by decide +kernel, by decide +kernel⟩
theorem bd_wrong_in_all : bindB st_wrong_in_all ["value", "many", "is_right"] := fun x q kV doc pm an cdv ct us hl => match us, hl with | [_, _, _], _ => rfl
abbrev st_are_below : Stmt := topS 13
theorem sc_are_below : FnScope ["ahead", "value"] ["ahead", "value"] (L2.defScope st_are_below) := ⟨rfl, rfl, rfl, by decide +kernel, rfl, by decide +kernel, by decide +kernel⟩
theorem bd_are_below : bindB st_are_below ["ahead", "value"] := fun x q kV doc pm an cdv ct us hl => match us, hl with | [_, _], _ => rfl
abbrev st_wrong_in_places : Stmt := topS 19
theorem sc_wrong_in_places : FnScope ["value"] ["value"] (L2.defScope st_wrong_in_places) := ⟨rfl, rfl, rfl, by decide +kernel, rfl, by decide +kernel, by decide +kernel⟩
theorem bd_wrong_in_places : bindB st_wrong_in_places ["value"] := fun x q kV doc pm an cdv ct us hl => match us, hl with | [_], _ => rfl
abbrev st_is_tie_of : Stmt := topS 20
theorem sc_is_tie_of : FnScope ["places", "value"] ["places", "value"] (L2.defScope st_is_tie_of) := ⟨rfl, rfl, rfl, by decide +kernel, rfl, by decide +kernel, by decide +kernel⟩
theorem bd_is_tie_of : bindB st_is_tie_of ["places", "value"] := fun x q kV doc pm an cdv ct us hl => match us, hl with | [_, _], _ => rfl
abbrev st_wrong_in_ties : Stmt := topS 21
theorem sc_wrong_in_ties : FnScope ["places", "value"] ["places", "value"] (L2.defScope st_wrong_in_ties) := ⟨rfl, rfl, rfl, by decide +kernel, rfl, by decide +kernel, by decide +kernel⟩
theorem bd_wrong_in_ties : bindB st_wrong_in_ties ["places", "value"] := fun x q kV doc pm an cdv ct us hl => match us, hl with | [_, _], _ => rfl
abbrev st_beside : Stmt := topS 22
theorem sc_beside : FnScope ["ties", "place", "one", "other"] ["ties", "place"] (L2.defScope st_beside) := ⟨rfl, rfl, rfl, by decide +kernel, rfl, by decide +kernel, by decide +kernel⟩
theorem bd_beside : bindB st_beside ["ties", "place"] := fun x q kV doc pm an cdv ct us hl => match us, hl with | [_, _], _ => rfl
abbrev st_do_hang : Stmt := topS 23
theorem sc_do_hang : FnScope ["places", "ties", "found", "line", "there"] ["places", "ties"] (L2.defScope st_do_hang) := ⟨rfl, rfl, rfl, by decide +kernel, rfl, by decide +kernel, by decide +kernel⟩
theorem bd_do_hang : bindB st_do_hang ["places", "ties"] := fun x q kV doc pm an cdv ct us hl => match us, hl with | [_, _], _ => rfl
abbrev st_Web_places : Stmt := L2.inClass (topS 47) 1
theorem sc_Web_places : FnScope ["self"] ["self"] (L2.defScope st_Web_places) := ⟨rfl, rfl, rfl, by decide +kernel, rfl, by decide +kernel, by decide +kernel⟩
theorem bd_Web_places : bindB st_Web_places ["self"] := fun x q kV doc pm an cdv ct us hl => match us, hl with | [_], _ => rfl
abbrev st_pairs_of : Stmt := topS 24
theorem sc_pairs_of : FnScope ["web", "at", "one", "other"] ["web"] (L2.defScope st_pairs_of) := ⟨rfl, rfl, rfl, by decide +kernel, rfl, by decide +kernel, by decide +kernel⟩
theorem bd_pairs_of : bindB st_pairs_of ["web"] := fun x q kV doc pm an cdv ct us hl => match us, hl with | [_], _ => rfl
abbrev st_wrong_in_colours : Stmt := topS 26
theorem sc_wrong_in_colours : FnScope ["value", "many"] ["value", "many"] (L2.defScope st_wrong_in_colours) := ⟨rfl, rfl, rfl, by decide +kernel, rfl, by decide +kernel, by decide +kernel⟩
theorem bd_wrong_in_colours : bindB st_wrong_in_colours ["value", "many"] := fun x q kV doc pm an cdv ct us hl => match us, hl with | [_, _], _ => rfl
abbrev st_Web_ties : Stmt := L2.inClass (topS 47) 2
theorem sc_Web_ties : FnScope ["self"] ["self"] (L2.defScope st_Web_ties) := ⟨rfl, rfl, rfl, by decide +kernel, rfl, by decide +kernel, by decide +kernel⟩
theorem bd_Web_ties : bindB st_Web_ties ["self"] := fun x q kV doc pm an cdv ct us hl => match us, hl with | [_], _ => rfl
abbrev st_ways_between : Stmt := topS 27
theorem sc_ways_between : FnScope ["web", "one", "other", "found", "line", "way", "there"] ["web", "one", "other"] (L2.defScope st_ways_between) := ⟨rfl, rfl, rfl, by decide +kernel, rfl, by decide +kernel, by decide +kernel⟩
theorem bd_ways_between : bindB st_ways_between ["web", "one", "other"] := fun x q kV doc pm an cdv ct us hl => match us, hl with | [_, _, _], _ => rfl
abbrev st_far_from : Stmt := topS 28
theorem sc_far_from : FnScope ["web", "place", "found", "line", "later", "here", "there"] ["web", "place"] (L2.defScope st_far_from) := ⟨rfl, rfl, rfl, by decide +kernel, rfl, by decide +kernel, by decide +kernel⟩
theorem bd_far_from : bindB st_far_from ["web", "place"] := fun x q kV doc pm an cdv ct us hl => match us, hl with | [_, _], _ => rfl
abbrev st_span_by : Stmt := topS 29
theorem sc_span_by : FnScope ["web", "place"] ["web"] (L2.defScope st_span_by) := ⟨rfl, rfl, rfl, by decide +kernel, rfl, by decide +kernel, by decide +kernel⟩
theorem bd_span_by : bindB st_span_by ["web"] := fun x q kV doc pm an cdv ct us hl => match us, hl with | [_], _ => rfl
abbrev st_plain_colourings : Stmt := topS 31
theorem sc_plain_colourings : FnScope ["many", "most", "found", "_", "ahead", "used", "colour"] ["many", "most"] (L2.defScope st_plain_colourings) := ⟨rfl, rfl, rfl, by decide +kernel, rfl, by decide +kernel, by decide +kernel⟩
theorem bd_plain_colourings : bindB st_plain_colourings ["many", "most"] := fun x q kV doc pm an cdv ct us hl => match us, hl with | [_, _], _ => rfl
abbrev st_wrong_in_paint : Stmt := topS 33
theorem sc_wrong_in_paint : FnScope ["web", "value"] ["web", "value"] (L2.defScope st_wrong_in_paint) := ⟨rfl, rfl, rfl, by decide +kernel, rfl, by decide +kernel, by decide +kernel⟩
theorem bd_wrong_in_paint : bindB st_wrong_in_paint ["web", "value"] := fun x q kV doc pm an cdv ct us hl => match us, hl with | [_, _], _ => rfl
abbrev st_inner_lists : Stmt := topS 34
theorem sc_inner_lists : FnScope ["web", "found", "one", "other", "way", "place"] ["web"] (L2.defScope st_inner_lists) := ⟨rfl, rfl, rfl, by decide +kernel, rfl, by decide +kernel, by decide +kernel⟩
theorem bd_inner_lists : bindB st_inner_lists ["web"] := fun x q kV doc pm an cdv ct us hl => match us, hl with | [_], _ => rfl
abbrev st_are_unlike_at : Stmt := topS 35
theorem sc_are_unlike_at : FnScope ["paint", "spots", "spot"] ["paint", "spots"] (L2.defScope st_are_unlike_at) := ⟨rfl, rfl, rfl, by decide +kernel, rfl, by decide +kernel, by decide +kernel⟩
theorem bd_are_unlike_at : bindB st_are_unlike_at ["paint", "spots"] := fun x q kV doc pm an cdv ct us hl => match us, hl with | [_, _], _ => rfl
abbrev st_is_bright_on : Stmt := topS 36
theorem sc_is_bright_on : FnScope ["paint", "lists", "rows", "spots"] ["paint", "lists"] (L2.defScope st_is_bright_on) := ⟨rfl, rfl, rfl, by decide +kernel, rfl, by decide +kernel, by decide +kernel⟩
theorem bd_is_bright_on : bindB st_is_bright_on ["paint", "lists"] := fun x q kV doc pm an cdv ct us hl => match us, hl with | [_, _], _ => rfl
abbrev st_is_bright_by : Stmt := topS 37
theorem sc_is_bright_by : FnScope ["web", "paint"] ["web", "paint"] (L2.defScope st_is_bright_by) := ⟨rfl, rfl, rfl, by decide +kernel, rfl, by decide +kernel, by decide +kernel⟩
theorem bd_is_bright_by : bindB st_is_bright_by ["web", "paint"] := fun x q kV doc pm an cdv ct us hl => match us, hl with | [_, _], _ => rfl
abbrev st_first_paint_by : Stmt := topS 38
theorem sc_first_paint_by : FnScope ["web", "lists", "number", "found", "paint", "used"] ["web"] (L2.defScope st_first_paint_by) := ⟨rfl, rfl, rfl, by decide +kernel, rfl, by decide +kernel, by decide +kernel⟩
theorem bd_first_paint_by : bindB st_first_paint_by ["web"] := fun x q kV doc pm an cdv ct us hl => match us, hl with | [_], _ => rfl
abbrev st_Web_init : Stmt := L2.inClass (topS 47) 0
theorem sc_Web_init : FnScope ["self", "places", "ties", "index"] ["self", "places", "ties"] (L2.defScope st_Web_init) := ⟨rfl, rfl, rfl, by decide +kernel, rfl, by decide +kernel, by decide +kernel⟩
theorem bd_Web_init : bindB st_Web_init ["self", "places", "ties"] := fun x q kV doc pm an cdv ct us hl => match us, hl with | [_, _, _], _ => rfl
abbrev st_check_web : Stmt := topS 48
theorem sc_check_web : FnScope ["web"] ["web"] (L2.defScope st_check_web) := ⟨rfl, rfl, rfl, by decide +kernel, rfl, by decide +kernel, by decide +kernel⟩
theorem bd_check_web : bindB st_check_web ["web"] := fun x q kV doc pm an cdv ct us hl => match us, hl with | [_], _ => rfl
abbrev st_span : Stmt := topS 49
theorem sc_span : FnScope ["web"] ["web"] (L2.defScope st_span) := ⟨rfl, rfl, rfl, by decide +kernel, rfl, by decide +kernel, by decide +kernel⟩
theorem bd_span : bindB st_span ["web"] := fun x q kV doc pm an cdv ct us hl => match us, hl with | [_], _ => rfl
abbrev st_check_paint : Stmt := topS 51
theorem sc_check_paint : FnScope ["web", "paint", "index"] ["web", "paint"] (L2.defScope st_check_paint) := ⟨rfl, rfl, rfl, by decide +kernel, rfl, by decide +kernel, by decide +kernel⟩
theorem bd_check_paint : bindB st_check_paint ["web", "paint"] := fun x q kV doc pm an cdv ct us hl => match us, hl with | [_, _], _ => rfl
abbrev st_is_bright : Stmt := topS 52
theorem sc_is_bright : FnScope ["web", "paint"] ["web", "paint"] (L2.defScope st_is_bright) := ⟨rfl, rfl, rfl, by decide +kernel, rfl, by decide +kernel, by decide +kernel⟩
theorem bd_is_bright : bindB st_is_bright ["web", "paint"] := fun x q kV doc pm an cdv ct us hl => match us, hl with | [_, _], _ => rfl
abbrev st_fewest_paint : Stmt := topS 53
theorem sc_fewest_paint : FnScope ["web"] ["web"] (L2.defScope st_fewest_paint) := ⟨rfl, rfl, rfl, by decide +kernel, rfl, by decide +kernel, by decide +kernel⟩
theorem bd_fewest_paint : bindB st_fewest_paint ["web"] := fun x q kV doc pm an cdv ct us hl => match us, hl with | [_], _ => rfl
abbrev st_first_paint : Stmt := topS 54
theorem sc_first_paint : FnScope ["web"] ["web"] (L2.defScope st_first_paint) := ⟨rfl, rfl, rfl, by decide +kernel, rfl, by decide +kernel, by decide +kernel⟩
theorem bd_first_paint : bindB st_first_paint ["web"] := fun x q kV doc pm an cdv ct us hl => match us, hl with | [_], _ => rfl
abbrev st__law_bowl : Stmt := topS 56
theorem sc__law_bowl : FnScope ["script", "lap", "stir", "cell", "own"] ["script", "lap"] (L2.defScope st__law_bowl) := ⟨rfl, rfl, rfl, by decide +kernel, rfl, by decide +kernel, by decide +kernel⟩
theorem bd__law_bowl : bindB st__law_bowl ["script", "lap"] := fun x q kV doc pm an cdv ct us hl => match us, hl with | [_, _], _ => rfl
abbrev st__law_draw : Stmt := topS 57
theorem sc__law_draw : FnScope ["bowl", "many", "figure", "turn"] ["bowl", "many"] (L2.defScope st__law_draw) := ⟨rfl, rfl, rfl, by decide +kernel, rfl, by decide +kernel, by decide +kernel⟩
theorem bd__law_draw : bindB st__law_draw ["bowl", "many"] := fun x q kV doc pm an cdv ct us hl => match us, hl with | [_, _], _ => rfl
abbrev st__law_of : Stmt := topS 58
theorem sc__law_of : FnScope ["bowl", "some"] ["bowl", "some"] (L2.defScope st__law_of) := ⟨rfl, rfl, rfl, by decide +kernel, rfl, by decide +kernel, by decide +kernel⟩
theorem bd__law_of : bindB st__law_of ["bowl", "some"] := fun x q kV doc pm an cdv ct us hl => match us, hl with | [_, _], _ => rfl
abbrev st__law_same : Stmt := topS 59
theorem sc__law_same : FnScope ["told", "due", "k"] ["told", "due"] (L2.defScope st__law_same) := ⟨rfl, rfl, rfl, by decide +kernel, rfl, by decide +kernel, by decide +kernel⟩
theorem bd__law_same : bindB st__law_same ["told", "due"] := fun x q kV doc pm an cdv ct us hl => match us, hl with | [_, _], _ => rfl
abbrev st__law_names : Stmt := topS 60
theorem sc__law_names : FnScope ["bowl", "many", "words", "more", "barred", "found", "turn", "name", "k", "some", "each", "last"] ["bowl", "many"] (L2.defScope st__law_names) := ⟨rfl, rfl, rfl, by decide +kernel, rfl, by decide +kernel, by decide +kernel⟩
theorem bd__law_names : bindB st__law_names ["bowl", "many"] := fun x q kV doc pm an cdv ct us hl => match us, hl with | [_, _], _ => rfl
abbrev st__law_web : Stmt := topS 61
theorem sc__law_web : FnScope ["bowl", "places", "most", "names", "ties", "often", "k", "one", "other"] ["bowl", "places", "most"] (L2.defScope st__law_web) := ⟨rfl, rfl, rfl, by decide +kernel, rfl, by decide +kernel, by decide +kernel⟩
theorem bd__law_web : bindB st__law_web ["bowl", "places", "most"] := fun x q kV doc pm an cdv ct us hl => match us, hl with | [_, _, _], _ => rfl
abbrev st__law_beside : Stmt := topS 62
theorem sc__law_beside : FnScope ["web", "one", "x"] ["web", "one"] (L2.defScope st__law_beside) := ⟨rfl, rfl, rfl, by decide +kernel, rfl, by decide +kernel, by decide +kernel⟩
theorem bd__law_beside : bindB st__law_beside ["web", "one"] := fun x q kV doc pm an cdv ct us hl => match us, hl with | [_, _], _ => rfl
abbrev st__law_ways : Stmt := topS 63
theorem sc__law_ways : FnScope ["web", "one", "other", "found", "edge", "more", "way", "ordered", "many", "x"] ["web", "one", "other"] (L2.defScope st__law_ways) := ⟨rfl, rfl, rfl, by decide +kernel, rfl, by decide +kernel, by decide +kernel⟩
theorem bd__law_ways : bindB st__law_ways ["web", "one", "other"] := fun x q kV doc pm an cdv ct us hl => match us, hl with | [_, _, _], _ => rfl
abbrev st__law_pairs : Stmt := topS 64
theorem sc__law_pairs : FnScope ["names", "found", "one", "other"] ["names"] (L2.defScope st__law_pairs) := ⟨rfl, rfl, rfl, by decide +kernel, rfl, by decide +kernel, by decide +kernel⟩
theorem bd__law_pairs : bindB st__law_pairs ["names"] := fun x q kV doc pm an cdv ct us hl => match us, hl with | [_], _ => rfl
abbrev st__law_grown : Stmt := topS 65
theorem sc__law_grown : FnScope ["many", "most", "found", "turn", "more", "each", "new", "k"] ["many", "most"] (L2.defScope st__law_grown) := ⟨rfl, rfl, rfl, by decide +kernel, rfl, by decide +kernel, by decide +kernel⟩
theorem bd__law_grown : bindB st__law_grown ["many", "most"] := fun x q kV doc pm an cdv ct us hl => match us, hl with | [_, _], _ => rfl
abbrev st__law_first : Stmt := topS 66
theorem sc__law_first : FnScope ["rows", "few", "each"] ["rows"] (L2.defScope st__law_first) := ⟨rfl, rfl, rfl, by decide +kernel, rfl, by decide +kernel, by decide +kernel⟩
theorem bd__law_first : bindB st__law_first ["rows"] := fun x q kV doc pm an cdv ct us hl => match us, hl with | [_], _ => rfl
abbrev st__law_made : Stmt := topS 67
theorem sc__law_made : FnScope ["web"] ["web"] (L2.defScope st__law_made) := ⟨rfl, rfl, rfl, by decide +kernel, rfl, by decide +kernel, by decide +kernel⟩
theorem bd__law_made : bindB st__law_made ["web"] := fun x q kV doc pm an cdv ct us hl => match us, hl with | [_], _ => rfl
abbrev st__law_bright : Stmt := topS 68
theorem sc__law_bright : FnScope ["web", "paint", "names", "one", "other", "rows", "way", "x", "row"] ["web", "paint"] (L2.defScope st__law_bright) := ⟨rfl, rfl, rfl, by decide +kernel, rfl, by decide +kernel, by decide +kernel⟩
theorem bd__law_bright : bindB st__law_bright ["web", "paint"] := fun x q kV doc pm an cdv ct us hl => match us, hl with | [_, _], _ => rfl
abbrev st__law_right : Stmt := topS 69
theorem sc__law_right : FnScope ["bowl", "lap", "web", "made", "few", "due", "each"] ["bowl"] (L2.defScope st__law_right) := ⟨rfl, rfl, rfl, by decide +kernel, rfl, by decide +kernel, by decide +kernel⟩
theorem bd__law_right : bindB st__law_right ["bowl"] := fun x q kV doc pm an cdv ct us hl => match us, hl with | [_], _ => rfl
abbrev st_law : Stmt := topS 70
theorem sc_law : FnScope ["script", "lap"] ["script"] (L2.defScope st_law) := ⟨rfl, rfl, rfl, by decide +kernel, rfl, by decide +kernel, by decide +kernel⟩
theorem bd_law : bindB st_law ["script"] := fun x q kV doc pm an cdv ct us hl => match us, hl with | [_], _ => rfl
/-! ### what the top has -/
structure Facts (P : Program) (w : World) (K : PySem.W.Frag) (mg : Str → Option Value) (base : Heap) (ca : Nat → Addr) (T0 : List (Addr × Str)) : Prop where
  z_abs : mg "abs" = none
  z_all : mg "all" = none
  z_any : mg "any" = none
  z_bool : mg "bool" = none
  z_divmod : mg "divmod" = none
  z_enumerate : mg "enumerate" = none
  z_int : mg "int" = none
  z_isinstance : mg "isinstance" = none
  z_len : mg "len" = none
  z_max : mg "max" = none
  z_min : mg "min" = none
  z_range : mg "range" = none
  z_set : mg "set" = none
  z_sorted : mg "sorted" = none
  z_str : mg "str" = none
  z_tuple : mg "tuple" = none
  c_MOST_LETTERS : ∃ t : Tok, mg "MOST_LETTERS" = some (.int 8 t)
  c_LEAST_PLACES : ∃ t : Tok, mg "LEAST_PLACES" = some (.int 2 t)
  c_MOST_PLACES : ∃ t : Tok, mg "MOST_PLACES" = some (.int 6 t)
  c_MOST_TIES : ∃ t : Tok, mg "MOST_TIES" = some (.int 9 t)
  c_LETTERS : ∃ t : Tok, mg "LETTERS" = some (.str "abcdefghijklmnopqrstuvwxyz" t)
  c_WORDS : ∃ a, mg "WORDS" = some (.ref a) ∧ Kt K a (words32.map V.str)
  c_MOST_COLOUR : ∃ t : Tok, mg "MOST_COLOUR" = some (.int 8 t)
  F_is_whole : ∃ f fd, mg "is_whole" = some (.ref f) ∧ L2.Fun K "is_whole" "is_whole" st_is_whole f fd
  F_is_between : ∃ f fd, mg "is_between" = some (.ref f) ∧ L2.Fun K "is_between" "is_between" st_is_between f fd
  F_is_one_of : ∃ f fd, mg "is_one_of" = some (.ref f) ∧ L2.Fun K "is_one_of" "is_one_of" st_is_one_of f fd
  F_is_word : ∃ f fd, mg "is_word" = some (.ref f) ∧ L2.Fun K "is_word" "is_word" st_is_word f fd
  F_is_name : ∃ f fd, mg "is_name" = some (.ref f) ∧ L2.Fun K "is_name" "is_name" st_is_name f fd
  F_is_tuple_of : ∃ f fd, mg "is_tuple_of" = some (.ref f) ∧ L2.Fun K "is_tuple_of" "is_tuple_of" st_is_tuple_of f fd
  F_is_pair : ∃ f fd, mg "is_pair" = some (.ref f) ∧ L2.Fun K "is_pair" "is_pair" st_is_pair f fd
  F_wrong_in : ∃ f fd, mg "wrong_in" = some (.ref f) ∧ L2.Fun K "wrong_in" "wrong_in" st_wrong_in f fd
  F_is_colour : ∃ f fd, mg "is_colour" = some (.ref f) ∧ L2.Fun K "is_colour" "is_colour" st_is_colour f fd
  F_wrong_in_all : ∃ f fd cc Pt, mg "wrong_in_all" = some (.ref f) ∧ FunC K "wrong_in_all" "wrong_in_all" st_wrong_in_all f fd cc ∧ TabB base mg cc Pt ∧ (Pt, ("wrong_in_all" ++ ".<locals>." ++ "<lambda>" : Str)) ∈ T0 ∧ ∀ p ∈ T0, p.1 = Pt → p.2 = ("wrong_in_all" ++ ".<locals>." ++ "<lambda>" : Str)
  F_are_below : ∃ f fd, mg "are_below" = some (.ref f) ∧ L2.Fun K "are_below" "are_below" st_are_below f fd
  F_wrong_in_places : ∃ f fd cc Pt, mg "wrong_in_places" = some (.ref f) ∧ FunC K "wrong_in_places" "wrong_in_places" st_wrong_in_places f fd cc ∧ TabB base mg cc Pt ∧ (Pt, ("wrong_in_places" ++ ".<locals>." ++ "<lambda>" : Str)) ∈ T0 ∧ ∀ p ∈ T0, p.1 = Pt → p.2 = ("wrong_in_places" ++ ".<locals>." ++ "<lambda>" : Str)
  F_is_tie_of : ∃ f fd, mg "is_tie_of" = some (.ref f) ∧ L2.Fun K "is_tie_of" "is_tie_of" st_is_tie_of f fd
  F_wrong_in_ties : ∃ f fd cc Pt, mg "wrong_in_ties" = some (.ref f) ∧ FunC K "wrong_in_ties" "wrong_in_ties" st_wrong_in_ties f fd cc ∧ TabB base mg cc Pt ∧ (Pt, ("wrong_in_ties" ++ ".<locals>." ++ "<lambda>" : Str)) ∈ T0 ∧ ∀ p ∈ T0, p.1 = Pt → p.2 = ("wrong_in_ties" ++ ".<locals>." ++ "<lambda>" : Str)
  F_beside : ∃ f fd, mg "beside" = some (.ref f) ∧ L2.Fun K "beside" "beside" st_beside f fd
  F_do_hang : ∃ f fd, mg "do_hang" = some (.ref f) ∧ L2.Fun K "do_hang" "do_hang" st_do_hang f fd
  F_Web_places : ∃ p f fd, PropOf K (ca 0) "places" p f ∧ L2.Fun K "places" "Web.places" st_Web_places f fd
  F_pairs_of : ∃ f fd, mg "pairs_of" = some (.ref f) ∧ L2.Fun K "pairs_of" "pairs_of" st_pairs_of f fd
  F_wrong_in_colours : ∃ f fd, mg "wrong_in_colours" = some (.ref f) ∧ L2.Fun K "wrong_in_colours" "wrong_in_colours" st_wrong_in_colours f fd
  F_Web_ties : ∃ p f fd, PropOf K (ca 0) "ties" p f ∧ L2.Fun K "ties" "Web.ties" st_Web_ties f fd
  F_ways_between : ∃ f fd cc Pt, mg "ways_between" = some (.ref f) ∧ FunC K "ways_between" "ways_between" st_ways_between f fd cc ∧ TabB base mg cc Pt ∧ (Pt, ("ways_between" ++ ".<locals>." ++ "<lambda>" : Str)) ∈ T0 ∧ ∀ p ∈ T0, p.1 = Pt → p.2 = ("ways_between" ++ ".<locals>." ++ "<lambda>" : Str)
  F_far_from : ∃ f fd, mg "far_from" = some (.ref f) ∧ L2.Fun K "far_from" "far_from" st_far_from f fd
  F_span_by : ∃ f fd, mg "span_by" = some (.ref f) ∧ L2.Fun K "span_by" "span_by" st_span_by f fd
  F_plain_colourings : ∃ f fd, mg "plain_colourings" = some (.ref f) ∧ L2.Fun K "plain_colourings" "plain_colourings" st_plain_colourings f fd
  F_wrong_in_paint : ∃ f fd, mg "wrong_in_paint" = some (.ref f) ∧ L2.Fun K "wrong_in_paint" "wrong_in_paint" st_wrong_in_paint f fd
  F_inner_lists : ∃ f fd, mg "inner_lists" = some (.ref f) ∧ L2.Fun K "inner_lists" "inner_lists" st_inner_lists f fd
  F_are_unlike_at : ∃ f fd, mg "are_unlike_at" = some (.ref f) ∧ L2.Fun K "are_unlike_at" "are_unlike_at" st_are_unlike_at f fd
  F_is_bright_on : ∃ f fd, mg "is_bright_on" = some (.ref f) ∧ L2.Fun K "is_bright_on" "is_bright_on" st_is_bright_on f fd
  F_is_bright_by : ∃ f fd, mg "is_bright_by" = some (.ref f) ∧ L2.Fun K "is_bright_by" "is_bright_by" st_is_bright_by f fd
  F_first_paint_by : ∃ f fd, mg "first_paint_by" = some (.ref f) ∧ L2.Fun K "first_paint_by" "first_paint_by" st_first_paint_by f fd
  F_Web_init : ∃ f fd, Mk K (ca 0) f ∧ L2.Fun K "__init__" "Web.__init__" st_Web_init f fd
  F_check_web : ∃ f fd, mg "check_web" = some (.ref f) ∧ L2.Fun K "check_web" "check_web" st_check_web f fd
  F_span : ∃ f fd, mg "span" = some (.ref f) ∧ L2.Fun K "span" "span" st_span f fd
  F_check_paint : ∃ f fd, mg "check_paint" = some (.ref f) ∧ L2.Fun K "check_paint" "check_paint" st_check_paint f fd
  F_is_bright : ∃ f fd, mg "is_bright" = some (.ref f) ∧ L2.Fun K "is_bright" "is_bright" st_is_bright f fd
  F_fewest_paint : ∃ f fd, mg "fewest_paint" = some (.ref f) ∧ L2.Fun K "fewest_paint" "fewest_paint" st_fewest_paint f fd
  F_first_paint : ∃ f fd, mg "first_paint" = some (.ref f) ∧ L2.Fun K "first_paint" "first_paint" st_first_paint f fd
  F__law_bowl : ∃ f fd, mg "_law_bowl" = some (.ref f) ∧ L2.Fun K "_law_bowl" "_law_bowl" st__law_bowl f fd
  F__law_draw : ∃ f fd, mg "_law_draw" = some (.ref f) ∧ L2.Fun K "_law_draw" "_law_draw" st__law_draw f fd
  F__law_of : ∃ f fd, mg "_law_of" = some (.ref f) ∧ L2.Fun K "_law_of" "_law_of" st__law_of f fd
  F__law_same : ∃ f fd, mg "_law_same" = some (.ref f) ∧ L2.Fun K "_law_same" "_law_same" st__law_same f fd
  F__law_names : ∃ f fd, mg "_law_names" = some (.ref f) ∧ L2.Fun K "_law_names" "_law_names" st__law_names f fd
  F__law_web : ∃ f fd, mg "_law_web" = some (.ref f) ∧ L2.Fun K "_law_web" "_law_web" st__law_web f fd
  F__law_beside : ∃ f fd, mg "_law_beside" = some (.ref f) ∧ L2.Fun K "_law_beside" "_law_beside" st__law_beside f fd
  F__law_ways : ∃ f fd, mg "_law_ways" = some (.ref f) ∧ L2.Fun K "_law_ways" "_law_ways" st__law_ways f fd
  F__law_pairs : ∃ f fd, mg "_law_pairs" = some (.ref f) ∧ L2.Fun K "_law_pairs" "_law_pairs" st__law_pairs f fd
  F__law_grown : ∃ f fd, mg "_law_grown" = some (.ref f) ∧ L2.Fun K "_law_grown" "_law_grown" st__law_grown f fd
  F__law_first : ∃ f fd, mg "_law_first" = some (.ref f) ∧ L2.Fun K "_law_first" "_law_first" st__law_first f fd
  F__law_made : ∃ f fd, mg "_law_made" = some (.ref f) ∧ L2.Fun K "_law_made" "_law_made" st__law_made f fd
  F__law_bright : ∃ f fd, mg "_law_bright" = some (.ref f) ∧ L2.Fun K "_law_bright" "_law_bright" st__law_bright f fd
  F__law_right : ∃ f fd, mg "_law_right" = some (.ref f) ∧ L2.Fun K "_law_right" "_law_right" st__law_right f fd
  F_law : ∃ f fd, mg "law" = some (.ref f) ∧ L2.Fun K "law" "law" st_law f fd
  cWeb : mg "Web" = some (.ref (ca 0))
  gf_is_colour : mg "is_colour" = some (.ref (ca 100))
  cls : Cls K (ca 0)
  na_all_told : NoAttr K (ca 0) "all_told"
  insC : C8.InsC K (ca 0)
section
variable {P : Program} {w : World} {K : PySem.W.Frag} {mg : Str → Option Value} {base : Heap} {ca : Nat → Addr} {T0 : List (Addr × Str)}
def m_is_whole : SM := retM (andM (primM [.pk 0] (gIsi "int")) (notM (primM [.pk 0] (gIsi "bool"))))
def g_is_whole : List T → Option Res := fnG 1 1 m_is_whole
theorem d_is_whole (Ev : Facts P w K mg base ca T0) : DefOk P w K mg base 1 "is_whole" st_is_whole ["value"] (spF (WK K ca T0) g_is_whole) := by
  obtain ⟨f, fd, hm, F⟩ := Ev.F_is_whole
  exact def_of F hm bd_is_whole (fn_ok (k := 0) F sc_is_whole rfl rfl (by decide) rfl fun cdv A outer s H E hr => (ss_one (s_ret (e_and (e_isi Ev.z_isinstance (o_pk 0 (pv 0)) (c_ty rfl Ev.z_int boot_int)) (e_one (e_not (e_isi Ev.z_isinstance (o_pk 0 (pv 0)) (c_ty rfl Ev.z_bool boot_bool))))))))
def m_is_between : SM := retM (andM (storeM [.val (varM 0)] g_is_whole) (chainM 1 0 2))
def g_is_between : List T → Option Res := fnG 3 3 m_is_between
theorem d_is_between (Ev : Facts P w K mg base ca T0) : DefOk P w K mg base 2 "is_between" st_is_between ["value", "least", "most"] (spF (WK K ca T0) g_is_between) := by
  obtain ⟨f, fd, hm, F⟩ := Ev.F_is_between
  exact def_of F hm bd_is_between (fn_ok (k := 1) F sc_is_between rfl rfl (by decide) rfl fun cdv A outer s H E hr => (ss_one (s_ret (e_and (e_call (d_is_whole Ev) (hr.mono (by decide)) (a_cons (o_v (e_var 0 (pv 0))) a_nil)) (e_one (e_chain (pv 1) (pv 0) (pv 2)))))))
def m_is_one_of : SM := retM (andM (primM [.pk 0] (gIsi "str")) (primM [.pk 0, .pk 1] (gIn false)))
def g_is_one_of : List T → Option Res := fnG 2 2 m_is_one_of
theorem d_is_one_of (Ev : Facts P w K mg base ca T0) : DefOk P w K mg base 1 "is_one_of" st_is_one_of ["value", "words"] (spF (WK K ca T0) g_is_one_of) := by
  obtain ⟨f, fd, hm, F⟩ := Ev.F_is_one_of
  exact def_of F hm bd_is_one_of (fn_ok (k := 0) F sc_is_one_of rfl rfl (by decide) rfl fun cdv A outer s H E hr => (ss_one (s_ret (e_and (e_isi Ev.z_isinstance (o_pk 0 (pv 0)) (c_ty rfl Ev.z_str boot_str)) (e_one (e_in hr (o_pk 0 (pv 0)) (o_pk 1 (pv 1))))))))
def m_is_word : SM := retM (andM (primM [.pk 0] (gIsi "str")) (andM (primM [.pk 0, .val (conM (.str ""))] gNe) (primM [.val (compM (strM (varM 0)) (.nm 1) yesM (primM [.pk 1, .val (conM (.str "abcdefghijklmnopqrstuvwxyz"))] (gInS false)) [1])] gAll)))
def g_is_word : List T → Option Res := fnG 2 1 m_is_word
theorem d_is_word (Ev : Facts P w K mg base ca T0) : DefOk P w K mg base 1 "is_word" st_is_word ["value"] (spF (WK K ca T0) g_is_word) := by
  obtain ⟨f, fd, hm, F⟩ := Ev.F_is_word
  exact def_of F hm bd_is_word (fn_ok (k := 0) F sc_is_word rfl rfl (by decide) rfl fun cdv A outer s H E hr => (ss_one (s_ret (e_and (e_isi Ev.z_isinstance (o_pk 0 (pv 0)) (c_ty rfl Ev.z_str boot_str)) (e_and (e_ne hr (o_pk 0 (pv 0)) (o_v (e_str (by decide +kernel)))) (e_one (e_all Ev.z_all (a_cons (o_v (e_lc (own := [("sign", 1)]) rfl sc_is_word.nd (i_str (e_var 0 (pv 0))) (blkOk_by (by kernel_rfl)) (fun _ _ _ _ _ => (g_nm 1 sc_is_word.nd rfl (by first | exact Or.inl rfl | exact Or.inr rfl) (by first | exact Or.inl rfl | exact Or.inr rfl))) (fun _ _ _ _ _ => f_nil) (fun _ _ _ _ _ => (e_ins (o_pk 1 (pv 1)) (o_v (let ⟨_, h⟩ := Ev.c_LETTERS; e_gstr rfl h (by decide +kernel))))))) a_nil))))))))
def m_is_name : SM := retM (andM (storeM [.val (varM 0)] g_is_word) (andM (primM [.val (primM [.pk 0] gLen), .val (conM (.int 8))] gLe) (primM [.pk 0, .val (conM (.tup true (words32.map T.str)))] (gIn true))))
def g_is_name : List T → Option Res := fnG 1 1 m_is_name
theorem d_is_name (Ev : Facts P w K mg base ca T0) : DefOk P w K mg base 2 "is_name" st_is_name ["value"] (spF (WK K ca T0) g_is_name) := by
  obtain ⟨f, fd, hm, F⟩ := Ev.F_is_name
  exact def_of F hm bd_is_name (fn_ok (k := 1) F sc_is_name rfl rfl (by decide) rfl fun cdv A outer s H E hr => (ss_one (s_ret (e_and (e_call (d_is_word Ev) (hr.mono (by decide)) (a_cons (o_v (e_var 0 (pv 0))) a_nil)) (e_and (e_le hr (o_v (e_len Ev.z_len (a_cons (o_pk 0 (pv 0)) a_nil))) (o_v (let ⟨_, h⟩ := Ev.c_MOST_LETTERS; e_gint rfl h))) (e_one (e_nin hr (o_pk 0 (pv 0)) (o_v (let ⟨_, h, hk⟩ := Ev.c_WORDS; e_gtup rfl h hk (by decide +kernel))))))))))
def m_is_tuple_of : SM := retM (andM (primM [.pk 0] (gIsi "tuple")) (primM [.val (primM [.pk 0] gLen), .pk 1] gEq))
def g_is_tuple_of : List T → Option Res := fnG 2 2 m_is_tuple_of
theorem d_is_tuple_of (Ev : Facts P w K mg base ca T0) : DefOk P w K mg base 1 "is_tuple_of" st_is_tuple_of ["value", "many"] (spF (WK K ca T0) g_is_tuple_of) := by
  obtain ⟨f, fd, hm, F⟩ := Ev.F_is_tuple_of
  exact def_of F hm bd_is_tuple_of (fn_ok (k := 0) F sc_is_tuple_of rfl rfl (by decide) rfl fun cdv A outer s H E hr => (ss_one (s_ret (e_and (e_isi Ev.z_isinstance (o_pk 0 (pv 0)) (c_ty rfl Ev.z_tuple boot_tuple)) (e_one (e_eq hr (o_v (e_len Ev.z_len (a_cons (o_pk 0 (pv 0)) a_nil))) (o_pk 1 (pv 1))))))))
def m_is_pair : SM := retM (storeM [.val (varM 0), .val (conM (.int 2))] g_is_tuple_of)
def g_is_pair : List T → Option Res := fnG 1 1 m_is_pair
theorem d_is_pair (Ev : Facts P w K mg base ca T0) : DefOk P w K mg base 2 "is_pair" st_is_pair ["value"] (spF (WK K ca T0) g_is_pair) := by
  obtain ⟨f, fd, hm, F⟩ := Ev.F_is_pair
  exact def_of F hm bd_is_pair (fn_ok (k := 1) F sc_is_pair rfl rfl (by decide) rfl fun cdv A outer s H E hr => (ss_one (s_ret (e_call (d_is_tuple_of Ev) (hr.mono (by decide)) (a_cons (o_v (e_var 0 (pv 0))) (a_cons (o_v e_int) a_nil))))))
noncomputable def m_wrong_in (lq : Str) (lf lc : Addr) (lw : List V) (lg : List T → Option Res) : SM := seqM (ifM (orM (notM (primM [.pk 0] (gIsi "tuple"))) (primM [.val (primM [.pk 0] gLen), .pk 1] gLt)) (retM (storeM [.val (conM .non)] gMkL)) (nopM)) (seqM (forM (enumM (varM 0)) (.tp [4, 5]) (ifM (orM (primM [.pk 4, .pk 2] gEq) (notM (callLM lq lf lc lw 3 [.val (primM [.pk 0, .pk 4] gSlH), .val (varM 5)] lg))) (retM (storeM [.val (varM 4)] gMkL)) (nopM))) (retM (storeM [] gMkL)))
/-- what it gives, by the lambda's answers -/
def goW (lg : List T → Option Res) (l : List T) (most : Int) (xs : List T) : Nat → List T → Option (List T)
  | _, [] => some []
  | i, t :: ts => if (i : Int) = most then some [.int i] else (match lg ([.tup false (xs.take i), t] ++ l) with
    | some (.bl true, false) => goW lg l most xs (i + 1) ts
    | some (.bl false, false) => some [.int i]
    | _ => none)
def wrongT (lg : List T → Option Res) (l : List T) : List T → Option (List T)
  | [.tup _ xs, .int least, .int most] => if (xs.length : Int) < least then some [.non] else goW lg l most xs 0 xs
  | _ => none
theorem wrong_go {lg : List T → Option Res} {q : Str} {f c : Addr} {ws : List V} {l : List T} {k : Bool} {xs : List T} {least most : Int} : ∀ (ts : List T) (i : Nat) (r : List T) (s4 s5 : Option (T × Own)), (∀ o, s4 = some o → o.2 ≠ .io) → (∀ o, s5 = some o → o.2 ≠ .io) → i + ts.length = xs.length → goW lg l most xs i ts = some r →
    outR (seqM (forLoop (.tp [4, 5]) (ifM (orM (primM [.pk 4, .pk 2] gEq) (notM (callLM q f c ws 3 [.val (primM [.pk 0, .pk 4] gSlH), .val (varM 5)] lg))) (retM (storeM [.val (varM 4)] gMkL)) (nopM)) (enumL i ts)) (retM (storeM [] gMkL)) [some (.tup k xs, .fr), some (.int least, .fr), some (.int most, .fr), some (.fn q f c ws l, .fr), s4, s5]) = some (.lst r, true)
  | [], i, r, s4, s5, n4, n5, hl, h => by
    simp only [goW] at h
    cases h
    simp [seqM, enumL, forLoop, retM, storeM, opsM, vals, gMkL, outR, lim]
  | t :: ts, i, r, s4, s5, n4, n5, hl, h => by
    have e4 : setM [some (T.tup k xs, Own.fr), some (.int least, .fr), some (.int most, .fr), some (.fn q f c ws l, .fr), s4, s5] 4 (.int (i : Nat)) false = some [some (T.tup k xs, Own.fr), some (.int least, .fr), some (.int most, .fr), some (.fn q f c ws l, .fr), some (.int i, .fr), s5] := by
      cases s4 with
      | none => rfl
      | some o =>
        obtain ⟨a, b⟩ := o
        have := n4 _ rfl
        cases b <;> first | rfl | exact absurd rfl this
    have e5 : setM [some (T.tup k xs, Own.fr), some (.int least, .fr), some (.int most, .fr), some (.fn q f c ws l, .fr), some (.int i, .fr), s5] 5 t false = some [some (T.tup k xs, Own.fr), some (.int least, .fr), some (.int most, .fr), some (.fn q f c ws l, .fr), some (.int i, .fr), some (t, .fr)] := by
      cases s5 with
      | none => rfl
      | some o =>
        obtain ⟨a, b⟩ := o
        have := n5 _ rfl
        cases b <;> first | rfl | exact absurd rfl this
    simp only [seqM, enumL, forLoop, tgM, setAll, e4, e5]
    simp only [goW] at h
    have hi : i < xs.length := by simp only [List.length_cons] at hl; omega
    by_cases hm : (i : Int) = most
    · rw [if_pos hm] at h
      cases h
      simp [seqM, ifM, orM, primM, opsM, rget, resolves, resolve, gEqI, hm, retM, storeM, varM, letgo, vals, gMkL, lim, outR]
    · rw [if_neg hm] at h
      split at h
      · rename_i hg
        simp only [List.cons_append, List.nil_append] at hg
        have ih := wrong_go (least := least) (k := k) (q := q) (f := f) (c := c) (ws := ws) ts (i + 1) r (some (.int i, .fr)) (some (t, .fr)) (by rintro o ⟨⟩; simp) (by rintro o ⟨⟩; simp) (by simp only [List.length_cons] at hl; omega) h
        simpa [seqM, ifM, orM, notM, nopM, primM, opsM, rget, resolves, resolve, gEqI, hm, retM, storeM, varM, letgo, vals, gMkL, lim, outR, callLM, slH_at hi, hg] using ih
      · rename_i hg
        simp only [List.cons_append, List.nil_append] at hg
        cases h
        simp [seqM, ifM, orM, notM, nopM, primM, opsM, rget, resolves, resolve, gEqI, hm, retM, storeM, varM, letgo, vals, gMkL, lim, outR, callLM, slH_at hi, hg]
      · cases h
theorem wrong_eval {lg : List T → Option Res} {q : Str} {f c : Addr} {ws : List V} {l ts r : List T} (h3 : ts.length = 3) (h : wrongT lg l ts = some r) : outR (m_wrong_in q f c ws lg (start0 6 (ts ++ [.fn q f c ws l]))) = some (.lst r, true) := by
  unfold wrongT at h
  split at h
  · rename_i k xs least most
    split at h
    · rename_i hl
      cases h
      simp [m_wrong_in, seqM, ifM, orM, notM, nopM, primM, opsM, rget, resolves, resolve, retM, storeM, varM, letgo, vals, gMkL, lim, outR, start0, gIsi, isiT, tyN, tys, gLen, gLtI, hl, conM]
    · rename_i hl
      have := wrong_go (least := least) (k := k) (q := q) (f := f) (c := c) (ws := ws) xs 0 r none none (by simp) (by simp) (by simp) h
      simpa [m_wrong_in, seqM, ifM, orM, notM, nopM, primM, opsM, rget, resolves, resolve, varM, letgo, vals, start0, gIsi, isiT, tyN, tys, gLen, gLtI, hl, conM, forM, enumM] using this
  · cases h
theorem b_wrong_in (Ev : Facts P w K mg base ca T0) {L : Lm} {lg : List T → Option Res} {m : M} {n4 kl : Nat} {ga f c : Addr} {cdv : Value} {cl : List (Str × Addr)} {ws : List V} {A : Around} {stack : List Env} {s : Shared} {H : Hp}
    (S : NScope L.N L.ps L.fr L.scope) (hb : ∀ (cl : List (Str × Addr)) (pm cv ctv : Value) (us : List Value), us.length = L.ps.length → bindArgs (PySem.W.kla_fn "<lambda>" L.q L.params L.body L.scope cl pm cv ctv) ⟨us, []⟩ = pure (L.ps.zip us)) (hps : L.ps.length = 2) (hnp : n4 ≤ L.N.length) (hgd : lg = fnE L.N.length n4 m)
    (hbody : ∀ (A : Around) (outer : List Env) (s : Shared) (H : Hp), Room kl (A.deeper (envF (L.nf cl c) f s.heap.objs.size)) → EE (ncx L2.CX0 P w K mg base L.N (L.nf cl c) f A outer s H L2.E0) (WK K ca T0) L.body m)
    (la : LamAt L stack s H f c cl ws) (hr : Room (kl + 1) (A.deeper (envOfC "wrong_in" (L2.defScope st_wrong_in) s.heap.objs.size ga cdv))) :
    ESs (cxOf L2.CX0 P w K mg base ["value", "least", "most", "is_right", "index", "each"] "wrong_in" (L2.defScope st_wrong_in) ga cdv A stack s H L2.E0).nox (WK K ca T0) (L2.defBody st_wrong_in) (m_wrong_in L.q f c ws lg) := (ss_cons (s_if (t_w (w_or (t_not (t_val (e_isi Ev.z_isinstance (o_pk 0 (pv 0)) (c_ty rfl Ev.z_tuple boot_tuple)))) (w_or1 (t_lt hr (o_v (e_len Ev.z_len (a_cons (o_pk 0 (pv 0)) a_nil))) (o_pk 1 (pv 1)))))) (ss_one (s_ret (e_lst (a_cons (o_v e_non) a_nil)))) ss_nil) (ss_cons (s_for PassesOwn.never rfl (i_enum Ev.z_enumerate (e_var 0 (pv 0))) (g_tp2 4 5 rfl sc_wrong_in.nd rfl (by first | exact Or.inl rfl | exact Or.inr rfl) (by first | exact Or.inl rfl | exact Or.inr rfl) rfl (by first | exact Or.inl rfl | exact Or.inr rfl) (by first | exact Or.inl rfl | exact Or.inr rfl)) (ss_one (s_if (t_w (w_or (t_eq hr (o_pk 4 (pv 4)) (o_pk 2 (pv 2))) (w_or1 (t_not (t_val (e_lam S hb hnp hgd hbody hr la rfl (Or.inl rfl) (a_cons (o_v (e_slH (o_pk 0 (pv 0)) (o_pk 4 (pv 4)))) (a_cons (o_v (e_var 5 (pv 5))) a_nil)) hps.symm)))))) (ss_one (s_ret (e_lst (a_cons (o_v (e_var 4 (pv 4))) a_nil)))) ss_nil))) (ss_one (s_ret (e_lst a_nil)))))
def lamAll (st : Stmt) : Option (Arguments × Expr × Scope) := match L2.defBody st with
  | [.Return (some (.Call _ [_, _, _, .Lambda a b s _] _ _)) _] => some (a, b, s)
  | [.Return (some (.IfExp _ (.Call _ [_, _, _, .Lambda a b s _] _ _) _ _)) _] => some (a, b, s)
  | _ => none
def lamArgs (st : Stmt) : Arguments := match lamAll st with
  | some (a, _, _) => a
  | none => { posonlyargs := [], args := [], vararg := none, kwonlyargs := [], kw_defaults := [], kwarg := none, defaults := [] }
def lamBody (st : Stmt) : Expr := match lamAll st with
  | some (_, b, _) => b
  | none => .Constant .none 0 ⟨0, 0, 0, 0⟩
def lamScope (st : Stmt) : Scope := match lamAll st with
  | some (_, _, s) => s
  | none => { kind := .function, names := [], isGenerator := false, isCoroutine := false }

def m_is_colour : SM := retM (storeM [.val (varM 0), .val (conM (.int 0)), .val (conM (.int 8))] g_is_between)
def g_is_colour : List T → Option Res := fnG 1 1 m_is_colour
theorem d_is_colour (Ev : Facts P w K mg base ca T0) : DefOk P w K mg base 3 "is_colour" st_is_colour ["value"] (spF (WK K ca T0) g_is_colour) := by
  obtain ⟨f, fd, hm, F⟩ := Ev.F_is_colour
  exact def_of F hm bd_is_colour (fn_ok (k := 2) F sc_is_colour rfl rfl (by decide) rfl fun cdv A outer s H E hr => (ss_one (s_ret (e_call (d_is_between Ev) (hr.mono (by decide)) (a_cons (o_v (e_var 0 (pv 0))) (a_cons (o_v e_int) (a_cons (o_v (let ⟨_, h⟩ := Ev.c_MOST_COLOUR; e_gint rfl h)) a_nil)))))))
def gs0 : List (List T → Option Res) := [g_is_colour]
theorem ds_gfn (Ev : Facts P w K mg base ca T0) : ∀ n g, gs0[n]? = some g → DAt P w K mg base 3 ((WK K ca T0).fa n) (spF (WK K ca T0) g) := fun n g h => match n, h with
  | 0, h => by cases h; exact ((d_is_colour Ev).mono (by decide)).at Ev.gf_is_colour
  | n + 1, h => by cases h
abbrev L_wrong_in_all : Lm := { q := "wrong_in_all" ++ ".<locals>." ++ "<lambda>", params := lamArgs st_wrong_in_all, body := lamBody st_wrong_in_all, scope := lamScope st_wrong_in_all, fr := ["is_right"], ps := ["ahead", "each"], N := ["ahead", "each", "is_right"] }
def ml_wrong_in_all : M := callVM 2 [.val (varM 1)] gs0
def gl_wrong_in_all : List T → Option Res := fnE 3 3 ml_wrong_in_all
def GW_wrong_in_all : List T → List T → Option (List T) := fun ts l => wrongT gl_wrong_in_all l ts
def m_wrong_in_all : SM := retM (iteM (storeM [.val (varM 0), .val (varM 1)] g_is_tuple_of) (giveM [.val (varM 0), .val (varM 1), .val (varM 1)] [2] GW_wrong_in_all) (storeM [.val (conM .non)] gMkL))
def g_wrong_in_all : List T → Option Res := fnG 3 3 m_wrong_in_all
theorem d_wrong_in_all (Ev : Facts P w K mg base ca T0) : DefOk P w K mg base 7 "wrong_in_all" st_wrong_in_all ["value", "many", "is_right"] (spF (WK K ca T0) g_wrong_in_all) := by
  obtain ⟨f, fd, cc, Pt, hm, F, hTB, hTm, hTu⟩ := Ev.F_wrong_in_all
  obtain ⟨fw, fdw, hmW, FW⟩ := Ev.F_wrong_in
  exact def_of F.to hm bd_wrong_in_all (fn_okC (k := 6) F sc_wrong_in_all rfl rfl (by decide) rfl fun A outer s H E hr => (ss_one (s_ret (e_ite (t_val (e_call (d_is_tuple_of Ev) (hr.mono (by decide)) (a_cons (o_v (e_var 0 (pv 0))) (a_cons (o_v (e_var 1 (pv 1))) a_nil)))) (e_give (L := L_wrong_in_all) (G := GW_wrong_in_all) rfl hmW FW bd_wrong_in sc_wrong_in rfl (fun ts l r f c ws h3 h => wrong_eval h3 h) (fun f c cl ws s H cdv la hr2 => b_wrong_in Ev (kl := 4) (n4 := 3) (nscope_by (by decide +kernel)) (fun cl pm cv ctv us hl => match us, hl with | [_, _], _ => rfl) rfl (by decide) rfl (fun A outer s H hr => (e_callV 2 (ds_gfn Ev) (hr.mono (by decide)) (pv 2) (a_cons (o_v (e_var 1 (pv 1))) a_nil))) la hr2) rfl hTB rfl rfl hTm hTu (hr.mono (by decide)) rfl (by decide +kernel : ∀ y ∈ L_wrong_in_all.scope.names, y.2 = .free → (L2.defScope st_wrong_in_all).names.lookup y.1 = some .cell ∨ (L2.defScope st_wrong_in_all).names.lookup y.1 = some .free) (by decide +kernel) rfl (o_v (e_var 0 (pv 0))) (o_v (e_var 1 (pv 1))) (o_v (e_var 1 (pv 1)))) (e_lst (a_cons (o_v e_non) a_nil))))))
def m_are_below : SM := retM (orM (primM [.pk 0, .val (storeM [] gMkT)] gEq) (primM [.val (primM [.pk 0, .val (conM (.int (-1)))] gIx), .pk 1] gLt))
def g_are_below : List T → Option Res := fnG 2 2 m_are_below
theorem d_are_below (Ev : Facts P w K mg base ca T0) : DefOk P w K mg base 1 "are_below" st_are_below ["ahead", "value"] (spF (WK K ca T0) g_are_below) := by
  obtain ⟨f, fd, hm, F⟩ := Ev.F_are_below
  exact def_of F hm bd_are_below (fn_ok (k := 0) F sc_are_below rfl rfl (by decide) rfl fun cdv A outer s H E hr => (ss_one (s_ret (e_or (e_eq hr (o_pk 0 (pv 0)) (o_v (e_tup a_nil))) (e_one (e_lt hr (o_v (e_ix (o_pk 0 (pv 0)) (o_v (e_neg e_int)))) (o_pk 1 (pv 1))))))))
abbrev L_wrong_in_places : Lm := { q := "wrong_in_places" ++ ".<locals>." ++ "<lambda>", params := lamArgs st_wrong_in_places, body := lamBody st_wrong_in_places, scope := lamScope st_wrong_in_places, fr := [], ps := ["ahead", "each"], N := ["ahead", "each"] }
def ml_wrong_in_places : M := andM (storeM [.val (varM 1)] g_is_name) (storeM [.val (varM 0), .val (varM 1)] g_are_below)
def gl_wrong_in_places : List T → Option Res := fnE 2 2 ml_wrong_in_places
def GW_wrong_in_places : List T → List T → Option (List T) := fun ts l => wrongT gl_wrong_in_places l ts
def m_wrong_in_places : SM := retM (giveM [.val (varM 0), .val (conM (.int 2)), .val (conM (.int 6))] [] GW_wrong_in_places)
def g_wrong_in_places : List T → Option Res := fnG 1 1 m_wrong_in_places
theorem d_wrong_in_places (Ev : Facts P w K mg base ca T0) : DefOk P w K mg base 5 "wrong_in_places" st_wrong_in_places ["value"] (spF (WK K ca T0) g_wrong_in_places) := by
  obtain ⟨f, fd, cc, Pt, hm, F, hTB, hTm, hTu⟩ := Ev.F_wrong_in_places
  obtain ⟨fw, fdw, hmW, FW⟩ := Ev.F_wrong_in
  exact def_of F.to hm bd_wrong_in_places (fn_okC (k := 4) F sc_wrong_in_places rfl rfl (by decide) rfl fun A outer s H E hr => (ss_one (s_ret (e_give (L := L_wrong_in_places) (G := GW_wrong_in_places) rfl hmW FW bd_wrong_in sc_wrong_in rfl (fun ts l r f c ws h3 h => wrong_eval h3 h) (fun f c cl ws s H cdv la hr2 => b_wrong_in Ev (kl := 2) (n4 := 2) (nscope_by (by decide +kernel)) (fun cl pm cv ctv us hl => match us, hl with | [_, _], _ => rfl) rfl (by decide) rfl (fun A outer s H hr => (e_and (e_call (d_is_name Ev) (hr.mono (by decide)) (a_cons (o_v (e_var 1 (pv 1))) a_nil)) (e_one (e_call (d_are_below Ev) (hr.mono (by decide)) (a_cons (o_v (e_var 0 (pv 0))) (a_cons (o_v (e_var 1 (pv 1))) a_nil)))))) la hr2) rfl hTB rfl rfl hTm hTu (hr.mono (by decide)) rfl (by decide +kernel : ∀ y ∈ L_wrong_in_places.scope.names, y.2 = .free → (L2.defScope st_wrong_in_places).names.lookup y.1 = some .cell ∨ (L2.defScope st_wrong_in_places).names.lookup y.1 = some .free) (by decide +kernel) rfl (o_v (e_var 0 (pv 0))) (o_v (let ⟨_, h⟩ := Ev.c_LEAST_PLACES; e_gint rfl h)) (o_v (let ⟨_, h⟩ := Ev.c_MOST_PLACES; e_gint rfl h))))))
def m_is_tie_of : SM := retM (andM (storeM [.val (varM 1)] g_is_pair) (andM (storeM [.val (primM [.pk 1, .val (conM (.int 0))] gIx), .val (varM 0)] g_is_one_of) (andM (storeM [.val (primM [.pk 1, .val (conM (.int 1))] gIx), .val (varM 0)] g_is_one_of) (primM [.val (primM [.pk 1, .val (conM (.int 0))] gIx), .val (primM [.pk 1, .val (conM (.int 1))] gIx)] gLt))))
def g_is_tie_of : List T → Option Res := fnG 2 2 m_is_tie_of
theorem d_is_tie_of (Ev : Facts P w K mg base ca T0) : DefOk P w K mg base 3 "is_tie_of" st_is_tie_of ["places", "value"] (spF (WK K ca T0) g_is_tie_of) := by
  obtain ⟨f, fd, hm, F⟩ := Ev.F_is_tie_of
  exact def_of F hm bd_is_tie_of (fn_ok (k := 2) F sc_is_tie_of rfl rfl (by decide) rfl fun cdv A outer s H E hr => (ss_one (s_ret (e_and (e_call (d_is_pair Ev) (hr.mono (by decide)) (a_cons (o_v (e_var 1 (pv 1))) a_nil)) (e_and (e_call (d_is_one_of Ev) (hr.mono (by decide)) (a_cons (o_v (e_ix (o_pk 1 (pv 1)) (o_v e_int))) (a_cons (o_v (e_var 0 (pv 0))) a_nil))) (e_and (e_call (d_is_one_of Ev) (hr.mono (by decide)) (a_cons (o_v (e_ix (o_pk 1 (pv 1)) (o_v e_int))) (a_cons (o_v (e_var 0 (pv 0))) a_nil))) (e_one (e_lt hr (o_v (e_ix (o_pk 1 (pv 1)) (o_v e_int))) (o_v (e_ix (o_pk 1 (pv 1)) (o_v e_int)))))))))))
abbrev L_wrong_in_ties : Lm := { q := "wrong_in_ties" ++ ".<locals>." ++ "<lambda>", params := lamArgs st_wrong_in_ties, body := lamBody st_wrong_in_ties, scope := lamScope st_wrong_in_ties, fr := ["places"], ps := ["ahead", "each"], N := ["ahead", "each", "places"] }
def ml_wrong_in_ties : M := andM (storeM [.val (varM 2), .val (varM 1)] g_is_tie_of) (storeM [.val (varM 0), .val (varM 1)] g_are_below)
def gl_wrong_in_ties : List T → Option Res := fnE 3 3 ml_wrong_in_ties
def GW_wrong_in_ties : List T → List T → Option (List T) := fun ts l => wrongT gl_wrong_in_ties l ts
def m_wrong_in_ties : SM := retM (giveM [.val (varM 1), .val (conM (.int 1)), .val (conM (.int 9))] [0] GW_wrong_in_ties)
def g_wrong_in_ties : List T → Option Res := fnG 2 2 m_wrong_in_ties
theorem d_wrong_in_ties (Ev : Facts P w K mg base ca T0) : DefOk P w K mg base 6 "wrong_in_ties" st_wrong_in_ties ["places", "value"] (spF (WK K ca T0) g_wrong_in_ties) := by
  obtain ⟨f, fd, cc, Pt, hm, F, hTB, hTm, hTu⟩ := Ev.F_wrong_in_ties
  obtain ⟨fw, fdw, hmW, FW⟩ := Ev.F_wrong_in
  exact def_of F.to hm bd_wrong_in_ties (fn_okC (k := 5) F sc_wrong_in_ties rfl rfl (by decide) rfl fun A outer s H E hr => (ss_one (s_ret (e_give (L := L_wrong_in_ties) (G := GW_wrong_in_ties) rfl hmW FW bd_wrong_in sc_wrong_in rfl (fun ts l r f c ws h3 h => wrong_eval h3 h) (fun f c cl ws s H cdv la hr2 => b_wrong_in Ev (kl := 3) (n4 := 3) (nscope_by (by decide +kernel)) (fun cl pm cv ctv us hl => match us, hl with | [_, _], _ => rfl) rfl (by decide) rfl (fun A outer s H hr => (e_and (e_call (d_is_tie_of Ev) (hr.mono (by decide)) (a_cons (o_v (e_var 2 (pv 2))) (a_cons (o_v (e_var 1 (pv 1))) a_nil))) (e_one (e_call (d_are_below Ev) (hr.mono (by decide)) (a_cons (o_v (e_var 0 (pv 0))) (a_cons (o_v (e_var 1 (pv 1))) a_nil)))))) la hr2) rfl hTB rfl rfl hTm hTu (hr.mono (by decide)) rfl (by decide +kernel : ∀ y ∈ L_wrong_in_ties.scope.names, y.2 = .free → (L2.defScope st_wrong_in_ties).names.lookup y.1 = some .cell ∨ (L2.defScope st_wrong_in_ties).names.lookup y.1 = some .free) (by decide +kernel) rfl (o_v (e_var 1 (pv 1))) (o_v e_int) (o_v (let ⟨_, h⟩ := Ev.c_MOST_TIES; e_gint rfl h))))))
def m_beside : SM := retM (compM (srcM (varM 0)) (.tp [2, 3]) (primM [.pk 1, .val (storeM [.val (varM 2), .val (varM 3)] gMkT)] (gIn false)) (iteM (primM [.pk 3, .pk 1] gEq) (varM 2) (varM 3)) [2, 3])
def g_beside : List T → Option Res := fnG 4 2 m_beside
theorem d_beside (Ev : Facts P w K mg base ca T0) : DefOk P w K mg base 1 "beside" st_beside ["ties", "place"] (spF (WK K ca T0) g_beside) := by
  obtain ⟨f, fd, hm, F⟩ := Ev.F_beside
  exact def_of F hm bd_beside (fn_ok (k := 0) F sc_beside rfl rfl (by decide) rfl fun cdv A outer s H E hr => (ss_one (s_ret (e_lc (own := [("one", 2), ("other", 3)]) rfl sc_beside.nd (i_seq (e_var 0 (pv 0))) (blkOk_by (by kernel_rfl)) (fun _ _ _ _ _ => (g_tp2 2 3 rfl sc_beside.nd rfl (by first | exact Or.inl rfl | exact Or.inr rfl) (by first | exact Or.inl rfl | exact Or.inr rfl) rfl (by first | exact Or.inl rfl | exact Or.inr rfl) (by first | exact Or.inl rfl | exact Or.inr rfl))) (fun _ _ _ _ _ => (f_one (t_in hr (o_pk 1 (pv 1)) (o_v (e_tup (a_cons (o_v (e_var 2 (pv 2))) (a_cons (o_v (e_var 3 (pv 3))) a_nil))))))) (fun _ _ _ _ _ => (e_ite (t_eq hr (o_pk 3 (pv 3)) (o_pk 1 (pv 1))) (e_var 2 (pv 2)) (e_var 3 (pv 3))))))))
def m_do_hang : SM := seqM (parM 2 3 (dispM (primM [.pk 0, .val (conM (.int 0))] gIx) (conM (.bl true))) (storeM [.val (primM [.pk 0, .val (conM (.int 0))] gIx)] gMkL)) (seqM (whileLoop (primM [.pk 3, .val (storeM [] gMkL)] gNe) (forM (srcM (storeM [.val (varM 1), .val (mutTM "list" 3 [] gPop)] g_beside)) (.nm 4) (ifM (primM [.pk 4, .pk 2] (gInK true)) (seqM (dropM (mutM 2 [.val (conM (.bl true)), .val (varM 4)] gDPut)) (dropM (mutTM "list" 3 [.val (varM 4)] gAppend))) (nopM))) 1000000) (retM (primM [.val (primM [.pk 2] gLen), .val (primM [.pk 0] gLen)] gEq)))
def g_do_hang : List T → Option Res := fnG 5 2 m_do_hang
theorem d_do_hang (Ev : Facts P w K mg base ca T0) : DefOk P w K mg base 2 "do_hang" st_do_hang ["places", "ties"] (spF (WK K ca T0) g_do_hang) := by
  obtain ⟨f, fd, hm, F⟩ := Ev.F_do_hang
  exact def_of F hm bd_do_hang (fn_ok (k := 1) F sc_do_hang rfl rfl (by decide) rfl fun cdv A outer s H E hr => (ss_cons (s_par 2 3 rfl sc_do_hang.nd rfl rfl (by decide) rfl rfl (e_disp (e_ix (o_pk 0 (pv 0)) (o_v e_int)) e_bl) (e_lst (a_cons (o_v (e_ix (o_pk 0 (pv 0)) (o_v e_int))) a_nil)) rfl) (ss_cons (s_while 1000000 PassesOwn.never (t_ne hr (o_pk 3 (pv 3)) (o_v (e_lst a_nil))) (ss_one (s_for PassesOwn.never rfl (i_seq (e_call (d_beside Ev) (hr.mono (by decide)) (a_cons (o_v (e_var 1 (pv 1))) (a_cons (o_v (e_pop 3 (pv 3))) a_nil)))) (g_nm 4 sc_do_hang.nd rfl (by first | exact Or.inl rfl | exact Or.inr rfl) (by first | exact Or.inl rfl | exact Or.inr rfl)) (ss_one (s_if (t_ninK hr (o_pk 4 (pv 4)) (o_pk 2 (pv 2))) (ss_cons (s_dput hr 2 (pv 2) (o_v (e_var 4 (pv 4))) (o_v e_bl)) (ss_one (s_expr (e_append 3 (pv 3) (a_cons (o_v (e_var 4 (pv 4))) a_nil))))) ss_nil))))) (ss_one (s_ret (e_eq hr (o_v (e_len Ev.z_len (a_cons (o_pk 2 (pv 2)) a_nil))) (o_v (e_len Ev.z_len (a_cons (o_pk 0 (pv 0)) a_nil)))))))))
def m_Web_places : SM := retM (primM [.val (primM [.pk 0] (gFld 0 "all_told")), .val (conM (.int 0))] gIx)
def g_Web_places : List T → Option Res := fnG 1 1 m_Web_places
theorem d_Web_places (Ev : Facts P w K mg base ca T0) : PropOk P w K mg base 1 (ca 0) "places" (spF (WK K ca T0) g_Web_places) := by
  obtain ⟨p, f, fd, hm, F⟩ := Ev.F_Web_places
  exact ⟨p, f, fd, ["self"], Ev.cls, hm, F.binds fun kV doc pm an cdv ct us hl => bd_Web_places _ _ kV doc pm an cdv ct us hl, fn_ok (k := 0) F sc_Web_places rfl rfl (by decide) rfl fun cdv A outer s H E hr => (ss_one (s_ret (e_ix (o_v (e_fld Ev.cls Ev.na_all_told (o_pk 0 (pv 0)))) (o_v e_int))))⟩
def m_pairs_of : SM := retM (comp2M (enumM (storeM [.val (varM 0)] (gProp 0 g_Web_places))) (.tp [1, 2]) yesM (srcM (primM [.val (storeM [.val (varM 0)] (gProp 0 g_Web_places)), .val (primM [.pk 1, .val (conM (.int 1))] gAdd)] gSlL)) (.nm 3) yesM (storeM [.val (varM 2), .val (varM 3)] gMkT) [1, 2, 3] [3])
def g_pairs_of : List T → Option Res := fnG 4 1 m_pairs_of
theorem d_pairs_of (Ev : Facts P w K mg base ca T0) : DefOk P w K mg base 3 "pairs_of" st_pairs_of ["web"] (spF (WK K ca T0) g_pairs_of) := by
  obtain ⟨f, fd, hm, F⟩ := Ev.F_pairs_of
  exact def_of F hm bd_pairs_of (fn_ok (k := 2) F sc_pairs_of rfl rfl (by decide) rfl fun cdv A outer s H E hr => (ss_one (s_ret (e_lc2 (own := [("at", 1), ("one", 2), ("other", 3)]) rfl sc_pairs_of.nd (i_enum Ev.z_enumerate (e_prop (d_Web_places Ev) (hr.mono (by decide)) (o_v (e_var 0 (pv 0))))) (blkOk_by (by kernel_rfl)) (fun _ _ _ _ _ => (g_tp2 1 2 rfl sc_pairs_of.nd rfl (by first | exact Or.inl rfl | exact Or.inr rfl) (by first | exact Or.inl rfl | exact Or.inr rfl) rfl (by first | exact Or.inl rfl | exact Or.inr rfl) (by first | exact Or.inl rfl | exact Or.inr rfl))) (fun _ _ _ _ _ => f_nil) (fun _ _ _ _ _ => (i_seq (e_slL (o_v (e_prop (d_Web_places Ev) (hr.mono (by decide)) (o_v (e_var 0 (pv 0))))) (o_v (e_add (o_pk 1 (pv 1)) (o_v e_int)))))) (fun _ _ _ _ _ => (g_nm 3 sc_pairs_of.nd rfl (by first | exact Or.inl rfl | exact Or.inr rfl) (by first | exact Or.inl rfl | exact Or.inr rfl))) (fun _ _ _ _ _ => f_nil) (fun _ _ _ _ _ => (e_tup (a_cons (o_v (e_var 2 (pv 2))) (a_cons (o_v (e_var 3 (pv 3))) a_nil))))))))
def m_wrong_in_colours : SM := retM (storeM [.val (varM 0), .val (varM 1), .val (conM (.gfn 0))] g_wrong_in_all)
def g_wrong_in_colours : List T → Option Res := fnG 2 2 m_wrong_in_colours
theorem d_wrong_in_colours (Ev : Facts P w K mg base ca T0) : DefOk P w K mg base 8 "wrong_in_colours" st_wrong_in_colours ["value", "many"] (spF (WK K ca T0) g_wrong_in_colours) := by
  obtain ⟨f, fd, hm, F⟩ := Ev.F_wrong_in_colours
  exact def_of F hm bd_wrong_in_colours (fn_ok (k := 7) F sc_wrong_in_colours rfl rfl (by decide) rfl fun cdv A outer s H E hr => (ss_one (s_ret (e_call (d_wrong_in_all Ev) (hr.mono (by decide)) (a_cons (o_v (e_var 0 (pv 0))) (a_cons (o_v (e_var 1 (pv 1))) (a_cons (o_v (e_gfn rfl Ev.gf_is_colour)) a_nil)))))))
def m_Web_ties : SM := retM (primM [.val (primM [.pk 0] (gFld 0 "all_told")), .val (conM (.int 1))] gIx)
def g_Web_ties : List T → Option Res := fnG 1 1 m_Web_ties
theorem d_Web_ties (Ev : Facts P w K mg base ca T0) : PropOk P w K mg base 1 (ca 0) "ties" (spF (WK K ca T0) g_Web_ties) := by
  obtain ⟨p, f, fd, hm, F⟩ := Ev.F_Web_ties
  exact ⟨p, f, fd, ["self"], Ev.cls, hm, F.binds fun kV doc pm an cdv ct us hl => bd_Web_ties _ _ kV doc pm an cdv ct us hl, fn_ok (k := 0) F sc_Web_ties rfl rfl (by decide) rfl fun cdv A outer s H E hr => (ss_one (s_ret (e_ix (o_v (e_fld Ev.cls Ev.na_all_told (o_pk 0 (pv 0)))) (o_v e_int))))⟩
def m_ways_between : SM := seqM (parM 3 4 (storeM [] gMkL) (storeM [.val (storeM [.val (varM 1)] gMkT)] gMkL)) (seqM (whileLoop (primM [.pk 4, .val (storeM [] gMkL)] gNe) (seqM (asgM 5 (mutTM "list" 4 [] gPop)) (ifM (primM [.val (primM [.pk 5, .val (conM (.int (-1)))] gIx), .pk 2] gEq) (dropM (mutTM "list" 3 [.val (varM 5)] gAppend)) (dropM (mutTM "list" 4 [.val (compM (srcM (storeM [.val (storeM [.val (varM 0)] (gProp 0 g_Web_ties)), .val (primM [.pk 5, .val (conM (.int (-1)))] gIx)] g_beside)) (.nm 6) (primM [.pk 6, .pk 5] (gIn true)) (starM (varM 5) (varM 6)) [6])] gExtend)))) 1000000) (retM (primM [.pk 3] gSortK)))
def g_ways_between : List T → Option Res := fnG 7 3 m_ways_between
theorem d_ways_between (Ev : Facts P w K mg base ca T0) : DefOk P w K mg base 3 "ways_between" st_ways_between ["web", "one", "other"] (spF (WK K ca T0) g_ways_between) := by
  obtain ⟨f, fd, cc, Pt, hm, F, hTB, hTm, hTu⟩ := Ev.F_ways_between
  exact def_of F.to hm bd_ways_between (fn_okC (k := 2) F sc_ways_between rfl rfl (by decide) rfl fun A outer s H E hr => (ss_cons (s_par 3 4 rfl sc_ways_between.nd rfl rfl (by decide) rfl rfl (e_lst a_nil) (e_lst (a_cons (o_v (e_tup (a_cons (o_v (e_var 1 (pv 1))) a_nil))) a_nil)) rfl) (ss_cons (s_while 1000000 PassesOwn.never (t_ne hr (o_pk 4 (pv 4)) (o_v (e_lst a_nil))) (ss_cons (s_set 5 sc_ways_between.nd rfl (by first | exact Or.inl rfl | exact Or.inr rfl) (by first | exact Or.inl rfl | exact Or.inr rfl) (e_pop 4 (pv 4))) (ss_one (s_if (t_eq hr (o_v (e_ix (o_pk 5 (pv 5)) (o_v (e_neg e_int)))) (o_pk 2 (pv 2))) (ss_one (s_expr (e_append 3 (pv 3) (a_cons (o_v (e_var 5 (pv 5))) a_nil)))) (ss_one (s_expr (e_extend 4 (pv 4) (a_cons (o_v (e_lc (own := [("there", 6)]) rfl sc_ways_between.nd (i_seq (e_call (d_beside Ev) (hr.mono (by decide)) (a_cons (o_v (e_prop (d_Web_ties Ev) (hr.mono (by decide)) (o_v (e_var 0 (pv 0))))) (a_cons (o_v (e_ix (o_pk 5 (pv 5)) (o_v (e_neg e_int)))) a_nil)))) (blkOk_by (by kernel_rfl)) (fun _ _ _ _ _ => (g_nm 6 sc_ways_between.nd rfl (by first | exact Or.inl rfl | exact Or.inr rfl) (by first | exact Or.inl rfl | exact Or.inr rfl))) (fun _ _ _ _ _ => (f_one (t_nin hr (o_pk 6 (pv 6)) (o_pk 5 (pv 5))))) (fun _ _ _ _ _ => (e_tstar (e_var 5 (pv 5)) (e_var 6 (pv 6)))))) a_nil)))))))) (ss_one (s_ret (e_sortK (k := 0) (nscope_by (by decide +kernel)) (fun q cl pm cv ctv us hl => match us, hl with | [_], _ => rfl) rfl Ev.z_len Ev.z_sorted rfl hTB rfl hTm hTu (hr.mono (by decide)) rfl (by decide +kernel) (fun _ => rfl) (o_pk 3 (pv 3))))))))
def m_far_from : SM := seqM (parM 2 3 (dispM (varM 1) (conM (.int 0))) (storeM [.val (varM 1)] gMkL)) (seqM (whileLoop (primM [.pk 3, .val (storeM [] gMkL)] gNe) (seqM (asgM 4 (storeM [] gMkL)) (seqM (forM (srcM (varM 3)) (.nm 5) (forM (srcM (storeM [.val (storeM [.val (varM 0)] (gProp 0 g_Web_ties)), .val (varM 5)] g_beside)) (.nm 6) (ifM (primM [.pk 6, .pk 2] (gInK true)) (seqM (dropM (mutM 2 [.val (primM [.val (primM [.pk 2, .pk 5] gDGet), .val (conM (.int 1))] gAdd), .val (varM 6)] gDPut)) (dropM (mutTM "list" 4 [.val (varM 6)] gAppend))) (nopM)))) (asgM 3 (varM 4)))) 1000000) (retVM 2))
def g_far_from : List T → Option Res := fnG 7 2 m_far_from
theorem d_far_from (Ev : Facts P w K mg base ca T0) : DefOk P w K mg base 3 "far_from" st_far_from ["web", "place"] (spF (WK K ca T0) g_far_from) := by
  obtain ⟨f, fd, hm, F⟩ := Ev.F_far_from
  exact def_of F hm bd_far_from (fn_ok (k := 2) F sc_far_from rfl rfl (by decide) rfl fun cdv A outer s H E hr => (ss_cons (s_par 2 3 rfl sc_far_from.nd rfl rfl (by decide) rfl rfl (e_disp (e_var 1 (pv 1)) e_int) (e_lst (a_cons (o_v (e_var 1 (pv 1))) a_nil)) rfl) (ss_cons (s_while 1000000 PassesOwn.never (t_ne hr (o_pk 3 (pv 3)) (o_v (e_lst a_nil))) (ss_cons (s_set 4 sc_far_from.nd rfl (by first | exact Or.inl rfl | exact Or.inr rfl) (by first | exact Or.inl rfl | exact Or.inr rfl) (e_lst a_nil)) (ss_cons (s_for PassesOwn.never rfl (i_seq (e_var 3 (pv 3))) (g_nm 5 sc_far_from.nd rfl (by first | exact Or.inl rfl | exact Or.inr rfl) (by first | exact Or.inl rfl | exact Or.inr rfl)) (ss_one (s_for PassesOwn.never rfl (i_seq (e_call (d_beside Ev) (hr.mono (by decide)) (a_cons (o_v (e_prop (d_Web_ties Ev) (hr.mono (by decide)) (o_v (e_var 0 (pv 0))))) (a_cons (o_v (e_var 5 (pv 5))) a_nil)))) (g_nm 6 sc_far_from.nd rfl (by first | exact Or.inl rfl | exact Or.inr rfl) (by first | exact Or.inl rfl | exact Or.inr rfl)) (ss_one (s_if (t_ninK hr (o_pk 6 (pv 6)) (o_pk 2 (pv 2))) (ss_cons (s_dput hr 2 (pv 2) (o_v (e_var 6 (pv 6))) (o_v (e_add (o_v (e_dget hr (o_pk 2 (pv 2)) (o_pk 5 (pv 5)))) (o_v e_int)))) (ss_one (s_expr (e_append 4 (pv 4) (a_cons (o_v (e_var 6 (pv 6))) a_nil))))) ss_nil))))) (ss_one (s_set 3 sc_far_from.nd rfl (by first | exact Or.inl rfl | exact Or.inr rfl) (by first | exact Or.inl rfl | exact Or.inr rfl) (e_var 4 (pv 4))))))) (ss_one (s_retV 2 (pv 2))))))
def m_span_by : SM := retM (primM [.val (compM (srcM (storeM [.val (varM 0)] (gProp 0 g_Web_places))) (.nm 1) yesM (primM [.val (storeM [.val (varM 0), .val (varM 1)] g_far_from)] gMaxV) [1])] gMax1)
def g_span_by : List T → Option Res := fnG 2 1 m_span_by
theorem d_span_by (Ev : Facts P w K mg base ca T0) : DefOk P w K mg base 4 "span_by" st_span_by ["web"] (spF (WK K ca T0) g_span_by) := by
  obtain ⟨f, fd, hm, F⟩ := Ev.F_span_by
  exact def_of F hm bd_span_by (fn_ok (k := 3) F sc_span_by rfl rfl (by decide) rfl fun cdv A outer s H E hr => (ss_one (s_ret (e_max1 Ev.z_max (a_cons (o_v (e_lc (own := [("place", 1)]) rfl sc_span_by.nd (i_seq (e_prop (d_Web_places Ev) (hr.mono (by decide)) (o_v (e_var 0 (pv 0))))) (blkOk_by (by kernel_rfl)) (fun _ _ _ _ _ => (g_nm 1 sc_span_by.nd rfl (by first | exact Or.inl rfl | exact Or.inr rfl) (by first | exact Or.inl rfl | exact Or.inr rfl))) (fun _ _ _ _ _ => f_nil) (fun _ _ _ _ _ => (e_maxV Ev.z_max (o_v (e_call (d_far_from Ev) (hr.mono (by decide)) (a_cons (o_v (e_var 0 (pv 0))) (a_cons (o_v (e_var 1 (pv 1))) a_nil)))))))) a_nil)))))
def m_plain_colourings : SM := seqM (asgM 2 (storeM [.val (storeM [.val (storeM [] gMkT), .val (conM (.int 0))] gMkT)] gMkL)) (seqM (forM (rng1M (.pk 0)) (.nm 3) (asgM 2 (comp2M (srcM (varM 2)) (.tp [4, 5]) yesM (rng1M (.val (primM [.val (primM [.pk 5, .val (conM (.int 1))] gAdd), .pk 1] gMin2))) (.nm 6) yesM (storeM [.val (starM (varM 4) (varM 6)), .val (primM [.pk 5, .val (primM [.pk 6, .val (conM (.int 1))] gAdd)] gMax2)] gMkT) [4, 5, 6] [6]))) (retVM 2))
def g_plain_colourings : List T → Option Res := fnG 7 2 m_plain_colourings
theorem d_plain_colourings (Ev : Facts P w K mg base ca T0) : DefOk P w K mg base 1 "plain_colourings" st_plain_colourings ["many", "most"] (spF (WK K ca T0) g_plain_colourings) := by
  obtain ⟨f, fd, hm, F⟩ := Ev.F_plain_colourings
  exact def_of F hm bd_plain_colourings (fn_ok (k := 0) F sc_plain_colourings rfl rfl (by decide) rfl fun cdv A outer s H E hr => (ss_cons (s_set 2 sc_plain_colourings.nd rfl (by first | exact Or.inl rfl | exact Or.inr rfl) (by first | exact Or.inl rfl | exact Or.inr rfl) (e_lst (a_cons (o_v (e_tup (a_cons (o_v (e_tup a_nil)) (a_cons (o_v e_int) a_nil)))) a_nil))) (ss_cons (s_for PassesOwn.never rfl (i_rng1 Ev.z_range (o_pk 0 (pv 0))) (g_nm 3 sc_plain_colourings.nd rfl (by first | exact Or.inl rfl | exact Or.inr rfl) (by first | exact Or.inl rfl | exact Or.inr rfl)) (ss_one (s_setLc2 (own := [("ahead", 4), ("used", 5), ("colour", 6)]) 2 rfl sc_plain_colourings.nd rfl rfl (sw_true rfl rfl rfl (by decide +kernel)) (i_seq (e_var 2 (pv 2))) (blkOk_by (by kernel_rfl)) (fun _ _ _ _ _ => (g_tp2 4 5 rfl sc_plain_colourings.nd rfl (by first | exact Or.inl rfl | exact Or.inr rfl) (by first | exact Or.inl rfl | exact Or.inr rfl) rfl (by first | exact Or.inl rfl | exact Or.inr rfl) (by first | exact Or.inl rfl | exact Or.inr rfl))) (fun _ _ _ _ _ => f_nil) (fun _ _ _ _ _ => (i_rng1 Ev.z_range (o_v (e_min Ev.z_min (a_cons (o_v (e_add (o_pk 5 (pv 5)) (o_v e_int))) (a_cons (o_pk 1 (pv 1)) a_nil)))))) (fun _ _ _ _ _ => (g_nm 6 sc_plain_colourings.nd rfl (by first | exact Or.inl rfl | exact Or.inr rfl) (by first | exact Or.inl rfl | exact Or.inr rfl))) (fun _ _ _ _ _ => f_nil) (fun _ _ _ _ _ => (e_tup (a_cons (o_v (e_tstar (e_var 4 (pv 4)) (e_var 6 (pv 6)))) (a_cons (o_v (e_max Ev.z_max (a_cons (o_pk 5 (pv 5)) (a_cons (o_v (e_add (o_pk 6 (pv 6)) (o_v e_int))) a_nil)))) a_nil))))))) (ss_one (s_retV 2 (pv 2))))))
def m_wrong_in_paint : SM := retM (storeM [.val (varM 1), .val (primM [.val (storeM [.val (varM 0)] (gProp 0 g_Web_places))] gLen)] g_wrong_in_colours)
def g_wrong_in_paint : List T → Option Res := fnG 2 2 m_wrong_in_paint
theorem d_wrong_in_paint (Ev : Facts P w K mg base ca T0) : DefOk P w K mg base 9 "wrong_in_paint" st_wrong_in_paint ["web", "value"] (spF (WK K ca T0) g_wrong_in_paint) := by
  obtain ⟨f, fd, hm, F⟩ := Ev.F_wrong_in_paint
  exact def_of F hm bd_wrong_in_paint (fn_ok (k := 8) F sc_wrong_in_paint rfl rfl (by decide) rfl fun cdv A outer s H E hr => (ss_one (s_ret (e_call (d_wrong_in_colours Ev) (hr.mono (by decide)) (a_cons (o_v (e_var 1 (pv 1))) (a_cons (o_v (e_len Ev.z_len (a_cons (o_v (e_prop (d_Web_places Ev) (hr.mono (by decide)) (o_v (e_var 0 (pv 0))))) a_nil))) a_nil))))))
def m_inner_lists : SM := seqM (asgM 1 (storeM [] gMkL)) (seqM (forM (srcM (storeM [.val (varM 0)] g_pairs_of)) (.tp [2, 3]) (dropM (mutTM "list" 1 [.val (compM (srcM (storeM [.val (varM 0), .val (varM 2), .val (varM 3)] g_ways_between)) (.nm 4) yesM (primM [.val (compM (srcM (primM [.pk 4] (gSlC 1 (-1)))) (.nm 5) yesM (indexM (storeM [.val (varM 0)] (gProp 0 g_Web_places)) (.pk 5)) [5])] gTupOf) [4])] gAppend))) (retVM 1))
def g_inner_lists : List T → Option Res := fnG 6 1 m_inner_lists
theorem d_inner_lists (Ev : Facts P w K mg base ca T0) : DefOk P w K mg base 4 "inner_lists" st_inner_lists ["web"] (spF (WK K ca T0) g_inner_lists) := by
  obtain ⟨f, fd, hm, F⟩ := Ev.F_inner_lists
  exact def_of F hm bd_inner_lists (fn_ok (k := 3) F sc_inner_lists rfl rfl (by decide) rfl fun cdv A outer s H E hr => (ss_cons (s_set 1 sc_inner_lists.nd rfl (by first | exact Or.inl rfl | exact Or.inr rfl) (by first | exact Or.inl rfl | exact Or.inr rfl) (e_lst a_nil)) (ss_cons (s_for PassesOwn.never rfl (i_seq (e_call (d_pairs_of Ev) (hr.mono (by decide)) (a_cons (o_v (e_var 0 (pv 0))) a_nil))) (g_tp2 2 3 rfl sc_inner_lists.nd rfl (by first | exact Or.inl rfl | exact Or.inr rfl) (by first | exact Or.inl rfl | exact Or.inr rfl) rfl (by first | exact Or.inl rfl | exact Or.inr rfl) (by first | exact Or.inl rfl | exact Or.inr rfl)) (ss_one (s_expr (e_append 1 (pv 1) (a_cons (o_v (e_lc (own := [("way", 4)]) rfl sc_inner_lists.nd (i_seq (e_call (d_ways_between Ev) (hr.mono (by decide)) (a_cons (o_v (e_var 0 (pv 0))) (a_cons (o_v (e_var 2 (pv 2))) (a_cons (o_v (e_var 3 (pv 3))) a_nil))))) (blkOk_by (by kernel_rfl)) (fun _ _ _ _ _ => (g_nm 4 sc_inner_lists.nd rfl (by first | exact Or.inl rfl | exact Or.inr rfl) (by first | exact Or.inl rfl | exact Or.inr rfl))) (fun _ _ _ _ _ => f_nil) (fun _ _ _ _ _ => (e_totup Ev.z_tuple (a_cons (o_v (e_lc (own := [("place", 5)]) rfl sc_inner_lists.nd (i_seq (e_slC (o_pk 4 (pv 4)) c_int (c_neg c_int))) (blkOk_by (by kernel_rfl)) (fun _ _ _ _ _ => (g_nm 5 sc_inner_lists.nd rfl (by first | exact Or.inl rfl | exact Or.inr rfl) (by first | exact Or.inl rfl | exact Or.inr rfl))) (fun _ _ _ _ _ => f_nil) (fun _ _ _ _ _ => (e_index hr (e_prop (d_Web_places Ev) (hr.mono (by decide)) (o_v (e_var 0 (pv 0)))) (o_pk 5 (pv 5)))))) a_nil))))) a_nil))))) (ss_one (s_retV 1 (pv 1))))))
def m_are_unlike_at : SM := retM (primM [.val (primM [.val (dcM (srcM (varM 1)) (.nm 2) yesM (primM [.pk 0, .pk 2] gIx) (conM (.bl true)) [2])] gLen), .val (primM [.pk 1] gLen)] gEq)
def g_are_unlike_at : List T → Option Res := fnG 3 2 m_are_unlike_at
theorem d_are_unlike_at (Ev : Facts P w K mg base ca T0) : DefOk P w K mg base 1 "are_unlike_at" st_are_unlike_at ["paint", "spots"] (spF (WK K ca T0) g_are_unlike_at) := by
  obtain ⟨f, fd, hm, F⟩ := Ev.F_are_unlike_at
  exact def_of F hm bd_are_unlike_at (fn_ok (k := 0) F sc_are_unlike_at rfl rfl (by decide) rfl fun cdv A outer s H E hr => (ss_one (s_ret (e_eq hr (o_v (e_len Ev.z_len (a_cons (o_v (e_dc (own := [("spot", 2)]) rfl sc_are_unlike_at.nd (i_seq (e_var 1 (pv 1))) (blkOk_by (by kernel_rfl)) (fun _ _ _ _ _ => (g_nm 2 sc_are_unlike_at.nd rfl (by first | exact Or.inl rfl | exact Or.inr rfl) (by first | exact Or.inl rfl | exact Or.inr rfl))) (fun _ _ _ _ _ => f_nil) (fun _ _ _ _ _ => (e_ix (o_pk 0 (pv 0)) (o_pk 2 (pv 2)))) (fun _ _ _ _ _ => e_bl))) a_nil))) (o_v (e_len Ev.z_len (a_cons (o_pk 1 (pv 1)) a_nil)))))))
def m_is_bright_on : SM := retM (primM [.val (compM (srcM (varM 1)) (.nm 2) yesM (primM [.val (compM (srcM (varM 2)) (.nm 3) yesM (storeM [.val (varM 0), .val (varM 3)] g_are_unlike_at) [3])] gAny) [2])] gAll)
def g_is_bright_on : List T → Option Res := fnG 4 2 m_is_bright_on
theorem d_is_bright_on (Ev : Facts P w K mg base ca T0) : DefOk P w K mg base 2 "is_bright_on" st_is_bright_on ["paint", "lists"] (spF (WK K ca T0) g_is_bright_on) := by
  obtain ⟨f, fd, hm, F⟩ := Ev.F_is_bright_on
  exact def_of F hm bd_is_bright_on (fn_ok (k := 1) F sc_is_bright_on rfl rfl (by decide) rfl fun cdv A outer s H E hr => (ss_one (s_ret (e_all Ev.z_all (a_cons (o_v (e_lc (own := [("rows", 2)]) rfl sc_is_bright_on.nd (i_seq (e_var 1 (pv 1))) (blkOk_by (by kernel_rfl)) (fun _ _ _ _ _ => (g_nm 2 sc_is_bright_on.nd rfl (by first | exact Or.inl rfl | exact Or.inr rfl) (by first | exact Or.inl rfl | exact Or.inr rfl))) (fun _ _ _ _ _ => f_nil) (fun _ _ _ _ _ => (e_any Ev.z_any (a_cons (o_v (e_lc (own := [("spots", 3)]) rfl sc_is_bright_on.nd (i_seq (e_var 2 (pv 2))) (blkOk_by (by kernel_rfl)) (fun _ _ _ _ _ => (g_nm 3 sc_is_bright_on.nd rfl (by first | exact Or.inl rfl | exact Or.inr rfl) (by first | exact Or.inl rfl | exact Or.inr rfl))) (fun _ _ _ _ _ => f_nil) (fun _ _ _ _ _ => (e_call (d_are_unlike_at Ev) (hr.mono (by decide)) (a_cons (o_v (e_var 0 (pv 0))) (a_cons (o_v (e_var 3 (pv 3))) a_nil)))))) a_nil))))) a_nil)))))
def m_is_bright_by : SM := retM (storeM [.val (varM 1), .val (storeM [.val (varM 0)] g_inner_lists)] g_is_bright_on)
def g_is_bright_by : List T → Option Res := fnG 2 2 m_is_bright_by
theorem d_is_bright_by (Ev : Facts P w K mg base ca T0) : DefOk P w K mg base 5 "is_bright_by" st_is_bright_by ["web", "paint"] (spF (WK K ca T0) g_is_bright_by) := by
  obtain ⟨f, fd, hm, F⟩ := Ev.F_is_bright_by
  exact def_of F hm bd_is_bright_by (fn_ok (k := 4) F sc_is_bright_by rfl rfl (by decide) rfl fun cdv A outer s H E hr => (ss_one (s_ret (e_call (d_is_bright_on Ev) (hr.mono (by decide)) (a_cons (o_v (e_var 1 (pv 1))) (a_cons (o_v (e_call (d_inner_lists Ev) (hr.mono (by decide)) (a_cons (o_v (e_var 0 (pv 0))) a_nil))) a_nil))))))
def m_first_paint_by : SM := seqM (asgTM [1, 2, 3] (storeM [.val (storeM [.val (varM 0)] g_inner_lists), .val (conM (.int 0)), .val (storeM [] gMkL)] gMkT)) (seqM (whileLoop (primM [.pk 3, .val (storeM [] gMkL)] gEq) (seqM (asgM 2 (primM [.pk 2, .val (conM (.int 1))] gAdd)) (asgM 3 (primM [.val (compM (srcM (storeM [.val (primM [.val (storeM [.val (varM 0)] (gProp 0 g_Web_places))] gLen), .val (varM 2)] g_plain_colourings)) (.tp [4, 5]) (andM (primM [.pk 5, .pk 2] gEq) (storeM [.val (varM 4), .val (varM 1)] g_is_bright_on)) (varM 4) [4, 5]), .val (conM (.int 1))] gSlH))) 1000000) (retM (storeM [.val (varM 2), .val (primM [.pk 3, .val (conM (.int 0))] gIx)] gMkT)))
def g_first_paint_by : List T → Option Res := fnG 6 1 m_first_paint_by
theorem d_first_paint_by (Ev : Facts P w K mg base ca T0) : DefOk P w K mg base 5 "first_paint_by" st_first_paint_by ["web"] (spF (WK K ca T0) g_first_paint_by) := by
  obtain ⟨f, fd, hm, F⟩ := Ev.F_first_paint_by
  exact def_of F hm bd_first_paint_by (fn_ok (k := 4) F sc_first_paint_by rfl rfl (by decide) rfl fun cdv A outer s H E hr => (ss_cons (s_setT (is := [1, 2, 3]) (e_tup (a_cons (o_v (e_call (d_inner_lists Ev) (hr.mono (by decide)) (a_cons (o_v (e_var 0 (pv 0))) a_nil))) (a_cons (o_v e_int) (a_cons (o_v (e_lst a_nil)) a_nil)))) (gn3 1 2 3 rfl sc_first_paint_by.nd rfl (by first | exact Or.inl rfl | exact Or.inr rfl) (by first | exact Or.inl rfl | exact Or.inr rfl) rfl (by first | exact Or.inl rfl | exact Or.inr rfl) (by first | exact Or.inl rfl | exact Or.inr rfl) rfl (by first | exact Or.inl rfl | exact Or.inr rfl) (by first | exact Or.inl rfl | exact Or.inr rfl))) (ss_cons (s_while 1000000 PassesOwn.never (t_eq hr (o_pk 3 (pv 3)) (o_v (e_lst a_nil))) (ss_cons (s_set 2 sc_first_paint_by.nd rfl (by first | exact Or.inl rfl | exact Or.inr rfl) (by first | exact Or.inl rfl | exact Or.inr rfl) (e_add (o_pk 2 (pv 2)) (o_v e_int))) (ss_one (s_set 3 sc_first_paint_by.nd rfl (by first | exact Or.inl rfl | exact Or.inr rfl) (by first | exact Or.inl rfl | exact Or.inr rfl) (e_slH (o_v (e_lc (own := [("paint", 4), ("used", 5)]) rfl sc_first_paint_by.nd (i_seq (e_call (d_plain_colourings Ev) (hr.mono (by decide)) (a_cons (o_v (e_len Ev.z_len (a_cons (o_v (e_prop (d_Web_places Ev) (hr.mono (by decide)) (o_v (e_var 0 (pv 0))))) a_nil))) (a_cons (o_v (e_var 2 (pv 2))) a_nil)))) (blkOk_by (by kernel_rfl)) (fun _ _ _ _ _ => (g_tp2 4 5 rfl sc_first_paint_by.nd rfl (by first | exact Or.inl rfl | exact Or.inr rfl) (by first | exact Or.inl rfl | exact Or.inr rfl) rfl (by first | exact Or.inl rfl | exact Or.inr rfl) (by first | exact Or.inl rfl | exact Or.inr rfl))) (fun _ _ _ _ _ => (f_one (t_w (w_and (t_eq hr (o_pk 5 (pv 5)) (o_pk 2 (pv 2))) (w_and1 (t_val (e_call (d_is_bright_on Ev) (hr.mono (by decide)) (a_cons (o_v (e_var 4 (pv 4))) (a_cons (o_v (e_var 1 (pv 1))) a_nil))))))))) (fun _ _ _ _ _ => (e_var 4 (pv 4))))) (o_v e_int)))))) (ss_one (s_ret (e_tup (a_cons (o_v (e_var 2 (pv 2))) (a_cons (o_v (e_ix (o_pk 3 (pv 3)) (o_v e_int))) a_nil))))))))
def m_Web_init : SM := seqM (forM (srcM (storeM [.val (varM 1)] g_wrong_in_places)) (.nm 3) (noM)) (seqM (forM (srcM (storeM [.val (varM 1), .val (varM 2)] g_wrong_in_ties)) (.nm 3) (noM)) (seqM (ifM (notM (storeM [.val (varM 1), .val (varM 2)] g_do_hang)) (noM) (nopM)) (dropM (mutM 0 [.val (storeM [.val (varM 1), .val (varM 2)] gMkT)] (gSetA 0 "all_told")))))
def g_Web_init : T → List T → Option (Res × T) := fnI 4 3 m_Web_init
theorem d_Web_init (Ev : Facts P w K mg base ca T0) : MakeOk P w K mg base 7 (ca 0) "Web" (spI (WK K ca T0) g_Web_init) := by
  obtain ⟨f, fd, hm, F⟩ := Ev.F_Web_init
  exact ⟨f, fd, ["self", "places", "ties"], Ev.cWeb, hm, F.binds fun kV doc pm an cdv ct us hl => bd_Web_init _ _ kV doc pm an cdv ct us hl, fn_okI (k := 6) F sc_Web_init rfl rfl (by decide) rfl fun cdv A outer s H E hr => (ss_cons (s_for PassesOwn.never rfl (i_seq (e_call (d_wrong_in_places Ev) (hr.mono (by decide)) (a_cons (o_v (e_var 1 (pv 1))) a_nil))) (g_nm 3 sc_Web_init.nd rfl (by first | exact Or.inl rfl | exact Or.inr rfl) (by first | exact Or.inl rfl | exact Or.inr rfl)) (ss_one s_no)) (ss_cons (s_for PassesOwn.never rfl (i_seq (e_call (d_wrong_in_ties Ev) (hr.mono (by decide)) (a_cons (o_v (e_var 1 (pv 1))) (a_cons (o_v (e_var 2 (pv 2))) a_nil)))) (g_nm 3 sc_Web_init.nd rfl (by first | exact Or.inl rfl | exact Or.inr rfl) (by first | exact Or.inl rfl | exact Or.inr rfl)) (ss_one s_no)) (ss_cons (s_if (t_not (t_val (e_call (d_do_hang Ev) (hr.mono (by decide)) (a_cons (o_v (e_var 1 (pv 1))) (a_cons (o_v (e_var 2 (pv 2))) a_nil))))) (ss_one s_no) ss_nil) (ss_one (s_setA 0 Ev.cls Ev.na_all_told (pv 0) (o_v (e_tup (a_cons (o_v (e_var 1 (pv 1))) (a_cons (o_v (e_var 2 (pv 2))) a_nil)))))))))⟩
def m_check_web : SM := ifM (notM (primM [.pk 0] (gIsC 0))) (noM) (nopM)
def g_check_web : List T → Option Res := fnG 1 1 m_check_web
theorem d_check_web (Ev : Facts P w K mg base ca T0) : DefOk P w K mg base 1 "check_web" st_check_web ["web"] (spF (WK K ca T0) g_check_web) := by
  obtain ⟨f, fd, hm, F⟩ := Ev.F_check_web
  exact def_of F hm bd_check_web (fn_ok (k := 0) F sc_check_web rfl rfl (by decide) rfl fun cdv A outer s H E hr => (ss_one (s_if (t_not (t_val (e_isC Ev.insC Ev.cWeb Ev.z_isinstance (o_pk 0 (pv 0))))) (ss_one s_no) ss_nil)))
def m_span : SM := seqM (dropM (storeM [.val (varM 0)] g_check_web)) (retM (storeM [.val (varM 0)] g_span_by))
def g_span : List T → Option Res := fnG 1 1 m_span
theorem d_span (Ev : Facts P w K mg base ca T0) : DefOk P w K mg base 5 "span" st_span ["web"] (spF (WK K ca T0) g_span) := by
  obtain ⟨f, fd, hm, F⟩ := Ev.F_span
  exact def_of F hm bd_span (fn_ok (k := 4) F sc_span rfl rfl (by decide) rfl fun cdv A outer s H E hr => (ss_cons (s_expr (e_call (d_check_web Ev) (hr.mono (by decide)) (a_cons (o_v (e_var 0 (pv 0))) a_nil))) (ss_one (s_ret (e_call (d_span_by Ev) (hr.mono (by decide)) (a_cons (o_v (e_var 0 (pv 0))) a_nil))))))
def m_check_paint : SM := seqM (dropM (storeM [.val (varM 0)] g_check_web)) (forM (srcM (storeM [.val (varM 0), .val (varM 1)] g_wrong_in_paint)) (.nm 2) (noM))
def g_check_paint : List T → Option Res := fnG 3 2 m_check_paint
theorem d_check_paint (Ev : Facts P w K mg base ca T0) : DefOk P w K mg base 10 "check_paint" st_check_paint ["web", "paint"] (spF (WK K ca T0) g_check_paint) := by
  obtain ⟨f, fd, hm, F⟩ := Ev.F_check_paint
  exact def_of F hm bd_check_paint (fn_ok (k := 9) F sc_check_paint rfl rfl (by decide) rfl fun cdv A outer s H E hr => (ss_cons (s_expr (e_call (d_check_web Ev) (hr.mono (by decide)) (a_cons (o_v (e_var 0 (pv 0))) a_nil))) (ss_one (s_for PassesOwn.never rfl (i_seq (e_call (d_wrong_in_paint Ev) (hr.mono (by decide)) (a_cons (o_v (e_var 0 (pv 0))) (a_cons (o_v (e_var 1 (pv 1))) a_nil)))) (g_nm 2 sc_check_paint.nd rfl (by first | exact Or.inl rfl | exact Or.inr rfl) (by first | exact Or.inl rfl | exact Or.inr rfl)) (ss_one s_no)))))
def m_is_bright : SM := seqM (dropM (storeM [.val (varM 0), .val (varM 1)] g_check_paint)) (retM (storeM [.val (varM 0), .val (varM 1)] g_is_bright_by))
def g_is_bright : List T → Option Res := fnG 2 2 m_is_bright
theorem d_is_bright (Ev : Facts P w K mg base ca T0) : DefOk P w K mg base 11 "is_bright" st_is_bright ["web", "paint"] (spF (WK K ca T0) g_is_bright) := by
  obtain ⟨f, fd, hm, F⟩ := Ev.F_is_bright
  exact def_of F hm bd_is_bright (fn_ok (k := 10) F sc_is_bright rfl rfl (by decide) rfl fun cdv A outer s H E hr => (ss_cons (s_expr (e_call (d_check_paint Ev) (hr.mono (by decide)) (a_cons (o_v (e_var 0 (pv 0))) (a_cons (o_v (e_var 1 (pv 1))) a_nil)))) (ss_one (s_ret (e_call (d_is_bright_by Ev) (hr.mono (by decide)) (a_cons (o_v (e_var 0 (pv 0))) (a_cons (o_v (e_var 1 (pv 1))) a_nil)))))))
def m_fewest_paint : SM := seqM (dropM (storeM [.val (varM 0)] g_check_web)) (retM (primM [.val (storeM [.val (varM 0)] g_first_paint_by), .val (conM (.int 0))] gIx))
def g_fewest_paint : List T → Option Res := fnG 1 1 m_fewest_paint
theorem d_fewest_paint (Ev : Facts P w K mg base ca T0) : DefOk P w K mg base 6 "fewest_paint" st_fewest_paint ["web"] (spF (WK K ca T0) g_fewest_paint) := by
  obtain ⟨f, fd, hm, F⟩ := Ev.F_fewest_paint
  exact def_of F hm bd_fewest_paint (fn_ok (k := 5) F sc_fewest_paint rfl rfl (by decide) rfl fun cdv A outer s H E hr => (ss_cons (s_expr (e_call (d_check_web Ev) (hr.mono (by decide)) (a_cons (o_v (e_var 0 (pv 0))) a_nil))) (ss_one (s_ret (e_ix (o_v (e_call (d_first_paint_by Ev) (hr.mono (by decide)) (a_cons (o_v (e_var 0 (pv 0))) a_nil))) (o_v e_int))))))
def m_first_paint : SM := seqM (dropM (storeM [.val (varM 0)] g_check_web)) (retM (primM [.val (storeM [.val (varM 0)] g_first_paint_by), .val (conM (.int 1))] gIx))
def g_first_paint : List T → Option Res := fnG 1 1 m_first_paint
theorem d_first_paint (Ev : Facts P w K mg base ca T0) : DefOk P w K mg base 6 "first_paint" st_first_paint ["web"] (spF (WK K ca T0) g_first_paint) := by
  obtain ⟨f, fd, hm, F⟩ := Ev.F_first_paint
  exact def_of F hm bd_first_paint (fn_ok (k := 5) F sc_first_paint rfl rfl (by decide) rfl fun cdv A outer s H E hr => (ss_cons (s_expr (e_call (d_check_web Ev) (hr.mono (by decide)) (a_cons (o_v (e_var 0 (pv 0))) a_nil))) (ss_one (s_ret (e_ix (o_v (e_call (d_first_paint_by Ev) (hr.mono (by decide)) (a_cons (o_v (e_var 0 (pv 0))) a_nil))) (o_v e_int))))))
def m__law_bowl : SM := seqM (asgM 2 (primM [.val (conM (.int 771041)), .val (primM [.val (conM (.int 8819)), .pk 1] gMul2)] gAdd)) (seqM (forM (srcM (primM [.pk 0, .val (conM (.int 9))] gSlH)) (.nm 3) (asgM 2 (primM [.val (primM [.val (primM [.val (primM [.val (primM [.pk 2, .val (conM (.int 48611))] gMul2), .val (primM [.val (primM [.val (primM [.pk 3] gInt), .val (conM (.int 2147483053))] gMod2), .val (conM (.int 19))] gMul2)] gAdd), .val (conM (.int 41))] gAdd)] gInt), .val (conM (.int 2147483563))] gMod2))) (seqM (asgM 4 (iteM (primM [.pk 1, .val (primM [.pk 0] gLen)] gLt) (primM [.val (primM [.pk 0, .pk 1] gIx)] gInt) (conM (.int 0)))) (seqM (asgM 2 (primM [.val (primM [.val (primM [.val (primM [.val (primM [.pk 2, .val (conM (.int 53))] gMul2), .val (primM [.val (primM [.pk 4, .val (conM (.int 2147483053))] gMod2), .val (conM (.int 27011))] gMul2)] gAdd), .val (conM (.int 11))] gAdd)] gInt), .val (conM (.int 2147483563))] gMod2)) (retM (storeM [.val (iteM (orM (primM [.pk 4, .val (conM (.int 0))] gLt) (primM [.pk 4, .val (primM [.val (conM (.int 10)), .val (conM (.int 16))] gPow2)] gGe)) (primM [.pk 4] gAbs) (conM (.int 0))), .val (varM 2), .val (conM (.int 0))] gMkL)))))
def g__law_bowl : List T → Option Res := fnG 5 2 m__law_bowl
theorem d__law_bowl (Ev : Facts P w K mg base ca T0) : DefOk P w K mg base 1 "_law_bowl" st__law_bowl ["script", "lap"] (spF (WK K ca T0) g__law_bowl) := by
  obtain ⟨f, fd, hm, F⟩ := Ev.F__law_bowl
  exact def_of F hm bd__law_bowl (fn_ok (k := 0) F sc__law_bowl rfl rfl (by decide) rfl fun cdv A outer s H E hr => (ss_cons (s_set 2 sc__law_bowl.nd rfl (by first | exact Or.inl rfl | exact Or.inr rfl) (by first | exact Or.inl rfl | exact Or.inr rfl) (e_add (o_v e_int) (o_v (e_mul (o_v e_int) (o_pk 1 (pv 1)))))) (ss_cons (s_for PassesOwn.never rfl (i_seq (e_slH (o_pk 0 (pv 0)) (o_v e_int))) (g_nm 3 sc__law_bowl.nd rfl (by first | exact Or.inl rfl | exact Or.inr rfl) (by first | exact Or.inl rfl | exact Or.inr rfl)) (ss_one (s_set 2 sc__law_bowl.nd rfl (by first | exact Or.inl rfl | exact Or.inr rfl) (by first | exact Or.inl rfl | exact Or.inr rfl) (e_mod (o_v (e_toint Ev.z_int (a_cons (o_v (e_add (o_v (e_add (o_v (e_mul (o_pk 2 (pv 2)) (o_v e_int))) (o_v (e_mul (o_v (e_mod (o_v (e_toint Ev.z_int (a_cons (o_pk 3 (pv 3)) a_nil))) (o_v e_int))) (o_v e_int))))) (o_v e_int))) a_nil))) (o_v e_int))))) (ss_cons (s_set 4 sc__law_bowl.nd rfl (by first | exact Or.inl rfl | exact Or.inr rfl) (by first | exact Or.inl rfl | exact Or.inr rfl) (e_ite (t_lt hr (o_pk 1 (pv 1)) (o_v (e_len Ev.z_len (a_cons (o_pk 0 (pv 0)) a_nil)))) (e_toint Ev.z_int (a_cons (o_v (e_ix (o_pk 0 (pv 0)) (o_pk 1 (pv 1)))) a_nil)) e_int)) (ss_cons (s_set 2 sc__law_bowl.nd rfl (by first | exact Or.inl rfl | exact Or.inr rfl) (by first | exact Or.inl rfl | exact Or.inr rfl) (e_mod (o_v (e_toint Ev.z_int (a_cons (o_v (e_add (o_v (e_add (o_v (e_mul (o_pk 2 (pv 2)) (o_v e_int))) (o_v (e_mul (o_v (e_mod (o_pk 4 (pv 4)) (o_v e_int))) (o_v e_int))))) (o_v e_int))) a_nil))) (o_v e_int))) (ss_one (s_ret (e_lst (a_cons (o_v (e_ite (t_w (w_or (t_lt hr (o_pk 4 (pv 4)) (o_v e_int)) (w_or1 (t_ge hr (o_pk 4 (pv 4)) (o_v (e_pow (o_v e_int) (o_v e_int))))))) (e_abs Ev.z_abs (a_cons (o_pk 4 (pv 4)) a_nil)) e_int)) (a_cons (o_v (e_var 2 (pv 2))) (a_cons (o_v e_int) a_nil)))))))))))
def m__law_draw : SM := seqM (ifM (primM [.val (primM [.pk 0, .val (conM (.int 0))] gIx), .val (conM (.int 0))] gGt) (seqM (asgSN 0 0 2 (primM [.val (primM [.pk 0, .val (conM (.int 0))] gIx), .pk 1] gDivmod)) (retVM 2)) (nopM)) (seqM (dropM (mutM 0 [.val (primM [.val (primM [.pk 0, .val (conM (.int 2))] gIx), .val (conM (.int 1))] gAdd), .val (conM (.int 2))] gSetL)) (seqM (asgM 3 (primM [.val (primM [.val (primM [.val (primM [.val (primM [.pk 0, .val (conM (.int 1))] gIx), .val (conM (.int 39373))] gMul2), .val (primM [.val (conM (.int 17011)), .val (primM [.pk 0, .val (conM (.int 2))] gIx)] gMul2)] gAdd)] gInt), .val (conM (.int 2147483563))] gMod2)) (seqM (dropM (mutM 0 [.val (primM [.val (primM [.val (primM [.val (primM [.pk 3, .val (primM [.val (primM [.val (primM [.pk 3] gInt), .val (conM (.int 4093))] gMod2), .val (conM (.int 30011))] gAdd)] gMul2), .val (primM [.val (conM (.int 7)), .val (primM [.pk 0, .val (conM (.int 2))] gIx)] gMul2)] gAdd)] gInt), .val (conM (.int 2147483563))] gMod2), .val (conM (.int 1))] gSetL)) (retM (primM [.val (primM [.val (primM [.val (primM [.pk 0, .val (conM (.int 1))] gIx), .val (conM (.int 733))] gDiv2)] gInt), .pk 1] gMod2)))))
def g__law_draw : T → List T → Option (Res × T) := fnI 4 2 m__law_draw
theorem d__law_draw (Ev : Facts P w K mg base ca T0) : DefOk P w K mg base 1 "_law_draw" st__law_draw ["bowl", "many"] (spI (WK K ca T0) g__law_draw) := by
  obtain ⟨f, fd, hm, F⟩ := Ev.F__law_draw
  exact def_of F hm bd__law_draw (fn_okI (k := 0) F sc__law_draw rfl rfl (by decide) rfl fun cdv A outer s H E hr => (ss_cons (s_if (t_gt hr (o_v (e_ix (o_pk 0 (pv 0)) (o_v e_int))) (o_v e_int)) (ss_cons (s_setSN 0 2 sc__law_draw.nd rfl (by first | exact Or.inl rfl | exact Or.inr rfl) (by first | exact Or.inl rfl | exact Or.inr rfl) (pv 0) c_int (e_dm Ev.z_divmod (a_cons (o_v (e_ix (o_pk 0 (pv 0)) (o_v e_int))) (a_cons (o_pk 1 (pv 1)) a_nil)))) (ss_one (s_retV 2 (pv 2)))) ss_nil) (ss_cons (s_setL 0 (pv 0) (o_v e_int) (o_v (e_add (o_v (e_ix (o_pk 0 (pv 0)) (o_v e_int))) (o_v e_int)))) (ss_cons (s_set 3 sc__law_draw.nd rfl (by first | exact Or.inl rfl | exact Or.inr rfl) (by first | exact Or.inl rfl | exact Or.inr rfl) (e_mod (o_v (e_toint Ev.z_int (a_cons (o_v (e_add (o_v (e_mul (o_v (e_ix (o_pk 0 (pv 0)) (o_v e_int))) (o_v e_int))) (o_v (e_mul (o_v e_int) (o_v (e_ix (o_pk 0 (pv 0)) (o_v e_int))))))) a_nil))) (o_v e_int))) (ss_cons (s_setL 0 (pv 0) (o_v e_int) (o_v (e_mod (o_v (e_toint Ev.z_int (a_cons (o_v (e_add (o_v (e_mul (o_pk 3 (pv 3)) (o_v (e_add (o_v (e_mod (o_v (e_toint Ev.z_int (a_cons (o_pk 3 (pv 3)) a_nil))) (o_v e_int))) (o_v e_int))))) (o_v (e_mul (o_v e_int) (o_v (e_ix (o_pk 0 (pv 0)) (o_v e_int))))))) a_nil))) (o_v e_int)))) (ss_one (s_ret (e_mod (o_v (e_toint Ev.z_int (a_cons (o_v (e_div (o_v (e_ix (o_pk 0 (pv 0)) (o_v e_int))) (o_v e_int))) a_nil))) (o_pk 1 (pv 1))))))))))
def m__law_of : SM := retM (primM [.pk 1, .val (callIM 0 [.val (primM [.pk 1] gLen)] g__law_draw)] gIx)
def g__law_of : T → List T → Option (Res × T) := fnI 2 2 m__law_of
theorem d__law_of (Ev : Facts P w K mg base ca T0) : DefOk P w K mg base 2 "_law_of" st__law_of ["bowl", "some"] (spI (WK K ca T0) g__law_of) := by
  obtain ⟨f, fd, hm, F⟩ := Ev.F__law_of
  exact def_of F hm bd__law_of (fn_okI (k := 1) F sc__law_of rfl rfl (by decide) rfl fun cdv A outer s H E hr => (ss_one (s_ret (e_ix (o_pk 1 (pv 1)) (o_v (e_callI 0 (d__law_draw Ev) (hr.mono (by decide)) (pv 0) (a_cons (o_v (e_len Ev.z_len (a_cons (o_pk 1 (pv 1)) a_nil))) a_nil)))))))
def m__law_same (rg : List T → Option Res) : SM := seqM (ifM (primM [.pk 1] (gIsi "tuple")) (seqM (ifM (orM (notM (primM [.pk 0] (gIsi "tuple"))) (primM [.val (primM [.pk 0] gLen), .val (primM [.pk 1] gLen)] gNe)) (retM (conM (.bl false))) (nopM)) (retM (primM [.val (compM (rng1M (.val (primM [.pk 1] gLen))) (.nm 2) yesM (storeM [.val (primM [.pk 0, .pk 2] gIx), .val (primM [.pk 1, .pk 2] gIx)] rg) [2])] gAll))) (nopM)) (seqM (ifM (primM [.pk 1, .val (conM .non)] (gIsN false)) (retM (primM [.pk 0, .val (conM .non)] (gIsN false))) (nopM)) (seqM (ifM (primM [.pk 1] (gIsi "bool")) (retM (andM (primM [.pk 0] (gIsi "bool")) (primM [.pk 0, .pk 1] gEq))) (nopM)) (seqM (ifM (primM [.pk 1] (gIsi "int")) (retM (andM (primM [.pk 0] (gIsi "int")) (andM (notM (primM [.pk 0] (gIsi "bool"))) (primM [.pk 0, .pk 1] gEq)))) (nopM)) (seqM (ifM (primM [.pk 1] (gIsi "str")) (retM (andM (primM [.pk 0] (gIsi "str")) (primM [.pk 0, .pk 1] gEq))) (nopM)) (retM (primM [.pk 0, .pk 1] gEq))))))
def g__law_same : Nat → List T → Option Res
  | 0 => fnG 3 2 noM
  | d + 1 => fnG 3 2 (m__law_same (g__law_same d))
theorem d__law_same (Ev : Facts P w K mg base ca T0) : ∀ d : Nat, DefOk P w K mg base (d + 1) "_law_same" st__law_same ["told", "due"] (spF (WK K ca T0) (g__law_same d))
  | 0 => by
    obtain ⟨f, fd, hm, F⟩ := Ev.F__law_same
    exact def_of F hm bd__law_same (fn_ok (k := 0) F sc__law_same rfl rfl (by decide) rfl fun cdv A outer s H E hr => ss_no)
  | d + 1 => by
    obtain ⟨f, fd, hm, F⟩ := Ev.F__law_same
    have rd := d__law_same Ev d
    exact def_of F hm bd__law_same (fn_ok (k := d + 1) F sc__law_same rfl rfl (by decide) rfl fun cdv A outer s H E hr => (ss_cons (s_if (t_val (e_isi Ev.z_isinstance (o_pk 1 (pv 1)) (c_ty rfl Ev.z_tuple boot_tuple))) (ss_cons (s_if (t_w (w_or (t_not (t_val (e_isi Ev.z_isinstance (o_pk 0 (pv 0)) (c_ty rfl Ev.z_tuple boot_tuple)))) (w_or1 (t_ne hr (o_v (e_len Ev.z_len (a_cons (o_pk 0 (pv 0)) a_nil))) (o_v (e_len Ev.z_len (a_cons (o_pk 1 (pv 1)) a_nil))))))) (ss_one (s_ret e_bl)) ss_nil) (ss_one (s_ret (e_all Ev.z_all (a_cons (o_v (e_lc (own := [("k", 2)]) rfl sc__law_same.nd (i_rng1 Ev.z_range (o_v (e_len Ev.z_len (a_cons (o_pk 1 (pv 1)) a_nil)))) (blkOk_by (by kernel_rfl)) (fun _ _ _ _ _ => (g_nm 2 sc__law_same.nd rfl (by first | exact Or.inl rfl | exact Or.inr rfl) (by first | exact Or.inl rfl | exact Or.inr rfl))) (fun _ _ _ _ _ => f_nil) (fun _ _ _ _ _ => (e_call rd (hr.mono (by omega)) (a_cons (o_v (e_ix (o_pk 0 (pv 0)) (o_pk 2 (pv 2)))) (a_cons (o_v (e_ix (o_pk 1 (pv 1)) (o_pk 2 (pv 2)))) a_nil)))))) a_nil))))) ss_nil) (ss_cons (s_if (t_isn (o_pk 1 (pv 1)) (o_v e_non)) (ss_one (s_ret (e_isn (o_pk 0 (pv 0)) (o_v e_non)))) ss_nil) (ss_cons (s_if (t_val (e_isi Ev.z_isinstance (o_pk 1 (pv 1)) (c_ty rfl Ev.z_bool boot_bool))) (ss_one (s_ret (e_and (e_isi Ev.z_isinstance (o_pk 0 (pv 0)) (c_ty rfl Ev.z_bool boot_bool)) (e_one (e_eq hr (o_pk 0 (pv 0)) (o_pk 1 (pv 1))))))) ss_nil) (ss_cons (s_if (t_val (e_isi Ev.z_isinstance (o_pk 1 (pv 1)) (c_ty rfl Ev.z_int boot_int))) (ss_one (s_ret (e_and (e_isi Ev.z_isinstance (o_pk 0 (pv 0)) (c_ty rfl Ev.z_int boot_int)) (e_and (e_not (e_isi Ev.z_isinstance (o_pk 0 (pv 0)) (c_ty rfl Ev.z_bool boot_bool))) (e_one (e_eq hr (o_pk 0 (pv 0)) (o_pk 1 (pv 1)))))))) ss_nil) (ss_cons (s_if (t_val (e_isi Ev.z_isinstance (o_pk 1 (pv 1)) (c_ty rfl Ev.z_str boot_str))) (ss_one (s_ret (e_and (e_isi Ev.z_isinstance (o_pk 0 (pv 0)) (c_ty rfl Ev.z_str boot_str)) (e_one (e_eq hr (o_pk 0 (pv 0)) (o_pk 1 (pv 1))))))) ss_nil) (ss_one (s_ret (e_eq hr (o_pk 0 (pv 0)) (o_pk 1 (pv 1)))))))))))
def m__law_names : SM := seqM (asgM 2 (conM (.str "all back book bright case chance colour cut draw first game in none of once open out paint place proper"))) (seqM (asgM 3 (conM (.str "quit rule short single take tie two undo way web win yes"))) (seqM (parM 4 5 (primM [.val (splitVM 2 " "), .val (splitVM 3 " ")] gAdd) (storeM [] gMkL)) (seqM (forM (rng1M (.pk 1)) (.nm 6) (seqM (asgM 7 (conM (.str ""))) (seqM (forM (rng1M (.val (callIM 0 [.val (storeM [.val (conM (.int 1)), .val (conM (.int 1)), .val (conM (.int 2)), .val (conM (.int 3)), .val (conM (.int 5)), .val (conM (.int 8))] gMkT)] g__law_of))) (.nm 8) (asgM 7 (primM [.pk 7, .val (primM [.val (conM (.str "abcdefghijklmnopqrstuvwxyz")), .val (callIM 0 [.val (conM (.int 26))] g__law_draw)] gIx)] gAdd))) (seqM (asgM 9 (compM (srcM (primM [.val (storeM [.val (varM 7)] gMkL), .val (compM (strM (conM (.str "abcdefghijklmnopqrstuvwxyz"))) (.nm 11) yesM (primM [.val (primM [.pk 7, .val (conM (.int 7))] gSlH), .pk 11] gAdd) [11])] gAdd)) (.nm 10) (primM [.pk 10, .val (primM [.pk 4, .pk 5] gAdd)] (gIn true)) (varM 10) [10])) (dropM (mutTM "list" 5 [.val (primM [.pk 9, .val (conM (.int 0))] gIx)] gAppend)))))) (retM (primM [.val (primM [.pk 5] gSort)] gTupOf)))))
def g__law_names : T → List T → Option (Res × T) := fnI 12 2 m__law_names
theorem d__law_names (Ev : Facts P w K mg base ca T0) : DefOk P w K mg base 3 "_law_names" st__law_names ["bowl", "many"] (spI (WK K ca T0) g__law_names) := by
  obtain ⟨f, fd, hm, F⟩ := Ev.F__law_names
  exact def_of F hm bd__law_names (fn_okI (k := 2) F sc__law_names rfl rfl (by decide) rfl fun cdv A outer s H E hr => (ss_cons (s_set 2 sc__law_names.nd rfl (by first | exact Or.inl rfl | exact Or.inr rfl) (by first | exact Or.inl rfl | exact Or.inr rfl) (e_str (by decide +kernel))) (ss_cons (s_set 3 sc__law_names.nd rfl (by first | exact Or.inl rfl | exact Or.inr rfl) (by first | exact Or.inl rfl | exact Or.inr rfl) (e_str (by decide +kernel))) (ss_cons (s_parT 4 5 (e_add (o_v (e_split 2 (pv 2) c_str)) (o_v (e_split 3 (pv 3) c_str))) (e_lst a_nil) (gn2 4 5 rfl sc__law_names.nd rfl (by first | exact Or.inl rfl | exact Or.inr rfl) (by first | exact Or.inl rfl | exact Or.inr rfl) rfl (by first | exact Or.inl rfl | exact Or.inr rfl) (by first | exact Or.inl rfl | exact Or.inr rfl))) (ss_cons (s_for PassesOwn.never rfl (i_rng1 Ev.z_range (o_pk 1 (pv 1))) (g_nm 6 sc__law_names.nd rfl (by first | exact Or.inl rfl | exact Or.inr rfl) (by first | exact Or.inl rfl | exact Or.inr rfl)) (ss_cons (s_set 7 sc__law_names.nd rfl (by first | exact Or.inl rfl | exact Or.inr rfl) (by first | exact Or.inl rfl | exact Or.inr rfl) (e_str (by decide +kernel))) (ss_cons (s_for PassesOwn.never rfl (i_rng1 Ev.z_range (o_v (e_callI 0 (d__law_of Ev) (hr.mono (by decide)) (pv 0) (a_cons (o_v (e_tup (a_cons (o_v e_int) (a_cons (o_v e_int) (a_cons (o_v e_int) (a_cons (o_v e_int) (a_cons (o_v e_int) (a_cons (o_v e_int) a_nil)))))))) a_nil)))) (g_nm 8 sc__law_names.nd rfl (by first | exact Or.inl rfl | exact Or.inr rfl) (by first | exact Or.inl rfl | exact Or.inr rfl)) (ss_one (s_set 7 sc__law_names.nd rfl (by first | exact Or.inl rfl | exact Or.inr rfl) (by first | exact Or.inl rfl | exact Or.inr rfl) (e_add (o_pk 7 (pv 7)) (o_v (e_ix (o_v (e_str (by decide +kernel))) (o_v (e_callI 0 (d__law_draw Ev) (hr.mono (by decide)) (pv 0) (a_cons (o_v e_int) a_nil))))))))) (ss_cons (s_setLc (own := [("each", 10)]) 9 rfl sc__law_names.nd rfl rfl (sw_true rfl rfl rfl (by decide +kernel)) (i_seq (e_add (o_v (e_lst (a_cons (o_v (e_var 7 (pv 7))) a_nil))) (o_v (e_lc (own := [("last", 11)]) rfl sc__law_names.nd (i_str (e_str (by decide +kernel))) (blkOk_by (by kernel_rfl)) (fun _ _ _ _ _ => (g_nm 11 sc__law_names.nd rfl (by first | exact Or.inl rfl | exact Or.inr rfl) (by first | exact Or.inl rfl | exact Or.inr rfl))) (fun _ _ _ _ _ => f_nil) (fun _ _ _ _ _ => (e_add (o_v (e_slH (o_pk 7 (pv 7)) (o_v e_int))) (o_pk 11 (pv 11)))))))) (blkOk_by (by kernel_rfl)) (fun _ _ _ _ _ => (g_nm 10 sc__law_names.nd rfl (by first | exact Or.inl rfl | exact Or.inr rfl) (by first | exact Or.inl rfl | exact Or.inr rfl))) (fun _ _ _ _ _ => (f_one (t_nin hr (o_pk 10 (pv 10)) (o_v (e_add (o_pk 4 (pv 4)) (o_pk 5 (pv 5))))))) (fun _ _ _ _ _ => (e_var 10 (pv 10)))) (ss_one (s_expr (e_append 5 (pv 5) (a_cons (o_v (e_ix (o_pk 9 (pv 9)) (o_v e_int))) a_nil)))))))) (ss_one (s_ret (e_totup Ev.z_tuple (a_cons (o_v (e_sorted hr Ev.z_sorted (a_cons (o_pk 5 (pv 5)) a_nil))) a_nil)))))))))
def m__law_web : SM := seqM (asgM 3 (callIM 0 [.val (primM [.val (conM (.int 2)), .val (callIM 0 [.val (primM [.pk 1, .val (conM (.int 1))] gSub2)] g__law_draw)] gAdd)] g__law_names)) (seqM (parM 4 5 (storeM [] gMkL) (callIM 0 [.val (storeM [.val (conM (.int 0)), .val (conM (.int 1)), .val (conM (.int 3)), .val (conM (.int 5))] gMkT)] g__law_of)) (seqM (forM (rng2M (.val (conM (.int 1))) (.val (primM [.pk 3] gLen))) (.nm 6) (dropM (mutTM "list" 4 [.val (storeM [.val (primM [.pk 3, .val (callIM 0 [.val (varM 6)] g__law_draw)] gIx), .val (primM [.pk 3, .pk 6] gIx)] gMkT)] gAppend))) (seqM (forM (srcM (varM 3)) (.nm 7) (forM (srcM (varM 3)) (.nm 8) (ifM (andM (primM [.pk 7, .pk 8] gLt) (andM (primM [.val (storeM [.val (varM 7), .val (varM 8)] gMkT), .pk 4] (gIn true)) (andM (primM [.val (callIM 0 [.val (conM (.int 6))] g__law_draw), .pk 5] gLt) (primM [.val (primM [.pk 4] gLen), .pk 2] gLt)))) (dropM (mutTM "list" 4 [.val (storeM [.val (varM 7), .val (varM 8)] gMkT)] gAppend)) (nopM)))) (retM (storeM [.val (varM 3), .val (primM [.val (primM [.pk 4] gSort)] gTupOf)] gMkT)))))
def g__law_web : T → List T → Option (Res × T) := fnI 9 3 m__law_web
theorem d__law_web (Ev : Facts P w K mg base ca T0) : DefOk P w K mg base 4 "_law_web" st__law_web ["bowl", "places", "most"] (spI (WK K ca T0) g__law_web) := by
  obtain ⟨f, fd, hm, F⟩ := Ev.F__law_web
  exact def_of F hm bd__law_web (fn_okI (k := 3) F sc__law_web rfl rfl (by decide) rfl fun cdv A outer s H E hr => (ss_cons (s_set 3 sc__law_web.nd rfl (by first | exact Or.inl rfl | exact Or.inr rfl) (by first | exact Or.inl rfl | exact Or.inr rfl) (e_callI 0 (d__law_names Ev) (hr.mono (by decide)) (pv 0) (a_cons (o_v (e_add (o_v e_int) (o_v (e_callI 0 (d__law_draw Ev) (hr.mono (by decide)) (pv 0) (a_cons (o_v (e_sub (o_pk 1 (pv 1)) (o_v e_int))) a_nil))))) a_nil))) (ss_cons (s_par 4 5 rfl sc__law_web.nd rfl rfl (by decide) rfl rfl (e_lst a_nil) (e_callI 0 (d__law_of Ev) (hr.mono (by decide)) (pv 0) (a_cons (o_v (e_tup (a_cons (o_v e_int) (a_cons (o_v e_int) (a_cons (o_v e_int) (a_cons (o_v e_int) a_nil)))))) a_nil)) rfl) (ss_cons (s_for PassesOwn.never rfl (i_rng2 Ev.z_range (o_v e_int) (o_v (e_len Ev.z_len (a_cons (o_pk 3 (pv 3)) a_nil)))) (g_nm 6 sc__law_web.nd rfl (by first | exact Or.inl rfl | exact Or.inr rfl) (by first | exact Or.inl rfl | exact Or.inr rfl)) (ss_one (s_expr (e_append 4 (pv 4) (a_cons (o_v (e_tup (a_cons (o_v (e_ix (o_pk 3 (pv 3)) (o_v (e_callI 0 (d__law_draw Ev) (hr.mono (by decide)) (pv 0) (a_cons (o_v (e_var 6 (pv 6))) a_nil))))) (a_cons (o_v (e_ix (o_pk 3 (pv 3)) (o_pk 6 (pv 6)))) a_nil)))) a_nil))))) (ss_cons (s_for PassesOwn.never rfl (i_seq (e_var 3 (pv 3))) (g_nm 7 sc__law_web.nd rfl (by first | exact Or.inl rfl | exact Or.inr rfl) (by first | exact Or.inl rfl | exact Or.inr rfl)) (ss_one (s_for PassesOwn.never rfl (i_seq (e_var 3 (pv 3))) (g_nm 8 sc__law_web.nd rfl (by first | exact Or.inl rfl | exact Or.inr rfl) (by first | exact Or.inl rfl | exact Or.inr rfl)) (ss_one (s_if (t_w (w_and (t_lt hr (o_pk 7 (pv 7)) (o_pk 8 (pv 8))) (w_and (t_nin hr (o_v (e_tup (a_cons (o_v (e_var 7 (pv 7))) (a_cons (o_v (e_var 8 (pv 8))) a_nil)))) (o_pk 4 (pv 4))) (w_and (t_lt hr (o_v (e_callI 0 (d__law_draw Ev) (hr.mono (by decide)) (pv 0) (a_cons (o_v e_int) a_nil))) (o_pk 5 (pv 5))) (w_and1 (t_lt hr (o_v (e_len Ev.z_len (a_cons (o_pk 4 (pv 4)) a_nil))) (o_pk 2 (pv 2)))))))) (ss_one (s_expr (e_append 4 (pv 4) (a_cons (o_v (e_tup (a_cons (o_v (e_var 7 (pv 7))) (a_cons (o_v (e_var 8 (pv 8))) a_nil)))) a_nil)))) ss_nil))))) (ss_one (s_ret (e_tup (a_cons (o_v (e_var 3 (pv 3))) (a_cons (o_v (e_totup Ev.z_tuple (a_cons (o_v (e_sorted hr Ev.z_sorted (a_cons (o_pk 4 (pv 4)) a_nil))) a_nil))) a_nil))))))))))
def m__law_beside : SM := retM (compM (srcM (primM [.pk 0, .val (conM (.int 0))] gIx)) (.nm 2) (orM (primM [.val (storeM [.val (varM 1), .val (varM 2)] gMkT), .val (primM [.pk 0, .val (conM (.int 1))] gIx)] (gIn false)) (primM [.val (storeM [.val (varM 2), .val (varM 1)] gMkT), .val (primM [.pk 0, .val (conM (.int 1))] gIx)] (gIn false))) (varM 2) [2])
def g__law_beside : List T → Option Res := fnG 3 2 m__law_beside
theorem d__law_beside (Ev : Facts P w K mg base ca T0) : DefOk P w K mg base 1 "_law_beside" st__law_beside ["web", "one"] (spF (WK K ca T0) g__law_beside) := by
  obtain ⟨f, fd, hm, F⟩ := Ev.F__law_beside
  exact def_of F hm bd__law_beside (fn_ok (k := 0) F sc__law_beside rfl rfl (by decide) rfl fun cdv A outer s H E hr => (ss_one (s_ret (e_lc (own := [("x", 2)]) rfl sc__law_beside.nd (i_seq (e_ix (o_pk 0 (pv 0)) (o_v e_int))) (blkOk_by (by kernel_rfl)) (fun _ _ _ _ _ => (g_nm 2 sc__law_beside.nd rfl (by first | exact Or.inl rfl | exact Or.inr rfl) (by first | exact Or.inl rfl | exact Or.inr rfl))) (fun _ _ _ _ _ => (f_one (t_w (w_or (t_in hr (o_v (e_tup (a_cons (o_v (e_var 1 (pv 1))) (a_cons (o_v (e_var 2 (pv 2))) a_nil)))) (o_v (e_ix (o_pk 0 (pv 0)) (o_v e_int)))) (w_or1 (t_in hr (o_v (e_tup (a_cons (o_v (e_var 2 (pv 2))) (a_cons (o_v (e_var 1 (pv 1))) a_nil)))) (o_v (e_ix (o_pk 0 (pv 0)) (o_v e_int))))))))) (fun _ _ _ _ _ => (e_var 2 (pv 2)))))))
def m__law_ways : SM := seqM (parM 3 4 (storeM [] gMkL) (storeM [.val (storeM [.val (varM 1)] gMkT)] gMkL)) (seqM (whileLoop (primM [.pk 4, .val (storeM [] gMkL)] gNe) (seqM (asgM 5 (storeM [] gMkL)) (seqM (forM (srcM (varM 4)) (.nm 6) (ifM (primM [.val (primM [.pk 6, .val (conM (.int (-1)))] gIx), .pk 2] gEq) (dropM (mutTM "list" 3 [.val (varM 6)] gAppend)) (asgM 5 (primM [.pk 5, .val (compM (srcM (storeM [.val (varM 0), .val (primM [.pk 6, .val (conM (.int (-1)))] gIx)] g__law_beside)) (.nm 9) (primM [.pk 9, .pk 6] (gIn true)) (primM [.pk 6, .val (storeM [.val (varM 9)] gMkT)] gAdd) [9])] gAdd)))) (asgM 4 (varM 5)))) 1000000) (seqM (asgM 7 (storeM [] gMkL)) (seqM (forM (rng1M (.val (primM [.val (primM [.val (primM [.pk 0, .val (conM (.int 0))] gIx)] gLen), .val (conM (.int 1))] gAdd))) (.nm 8) (asgM 7 (primM [.pk 7, .val (primM [.val (compM (srcM (varM 3)) (.nm 6) (primM [.val (primM [.pk 6] gLen), .pk 8] gEq) (varM 6) [6])] gSort)] gAdd))) (retVM 7))))
def g__law_ways : List T → Option Res := fnG 10 3 m__law_ways
theorem d__law_ways (Ev : Facts P w K mg base ca T0) : DefOk P w K mg base 2 "_law_ways" st__law_ways ["web", "one", "other"] (spF (WK K ca T0) g__law_ways) := by
  obtain ⟨f, fd, hm, F⟩ := Ev.F__law_ways
  exact def_of F hm bd__law_ways (fn_ok (k := 1) F sc__law_ways rfl rfl (by decide) rfl fun cdv A outer s H E hr => (ss_cons (s_par 3 4 rfl sc__law_ways.nd rfl rfl (by decide) rfl rfl (e_lst a_nil) (e_lst (a_cons (o_v (e_tup (a_cons (o_v (e_var 1 (pv 1))) a_nil))) a_nil)) rfl) (ss_cons (s_while 1000000 PassesOwn.never (t_ne hr (o_pk 4 (pv 4)) (o_v (e_lst a_nil))) (ss_cons (s_set 5 sc__law_ways.nd rfl (by first | exact Or.inl rfl | exact Or.inr rfl) (by first | exact Or.inl rfl | exact Or.inr rfl) (e_lst a_nil)) (ss_cons (s_for PassesOwn.never rfl (i_seq (e_var 4 (pv 4))) (g_nm 6 sc__law_ways.nd rfl (by first | exact Or.inl rfl | exact Or.inr rfl) (by first | exact Or.inl rfl | exact Or.inr rfl)) (ss_one (s_if (t_eq hr (o_v (e_ix (o_pk 6 (pv 6)) (o_v (e_neg e_int)))) (o_pk 2 (pv 2))) (ss_one (s_expr (e_append 3 (pv 3) (a_cons (o_v (e_var 6 (pv 6))) a_nil)))) (ss_one (s_set 5 sc__law_ways.nd rfl (by first | exact Or.inl rfl | exact Or.inr rfl) (by first | exact Or.inl rfl | exact Or.inr rfl) (e_add (o_pk 5 (pv 5)) (o_v (e_lc (own := [("x", 9)]) rfl sc__law_ways.nd (i_seq (e_call (d__law_beside Ev) (hr.mono (by decide)) (a_cons (o_v (e_var 0 (pv 0))) (a_cons (o_v (e_ix (o_pk 6 (pv 6)) (o_v (e_neg e_int)))) a_nil)))) (blkOk_by (by kernel_rfl)) (fun _ _ _ _ _ => (g_nm 9 sc__law_ways.nd rfl (by first | exact Or.inl rfl | exact Or.inr rfl) (by first | exact Or.inl rfl | exact Or.inr rfl))) (fun _ _ _ _ _ => (f_one (t_nin hr (o_pk 9 (pv 9)) (o_pk 6 (pv 6))))) (fun _ _ _ _ _ => (e_add (o_pk 6 (pv 6)) (o_v (e_tup (a_cons (o_v (e_var 9 (pv 9))) a_nil))))))))))))) (ss_one (s_set 4 sc__law_ways.nd rfl (by first | exact Or.inl rfl | exact Or.inr rfl) (by first | exact Or.inl rfl | exact Or.inr rfl) (e_var 5 (pv 5))))))) (ss_cons (s_set 7 sc__law_ways.nd rfl (by first | exact Or.inl rfl | exact Or.inr rfl) (by first | exact Or.inl rfl | exact Or.inr rfl) (e_lst a_nil)) (ss_cons (s_for PassesOwn.never rfl (i_rng1 Ev.z_range (o_v (e_add (o_v (e_len Ev.z_len (a_cons (o_v (e_ix (o_pk 0 (pv 0)) (o_v e_int))) a_nil))) (o_v e_int)))) (g_nm 8 sc__law_ways.nd rfl (by first | exact Or.inl rfl | exact Or.inr rfl) (by first | exact Or.inl rfl | exact Or.inr rfl)) (ss_one (s_set 7 sc__law_ways.nd rfl (by first | exact Or.inl rfl | exact Or.inr rfl) (by first | exact Or.inl rfl | exact Or.inr rfl) (e_add (o_pk 7 (pv 7)) (o_v (e_sorted hr Ev.z_sorted (a_cons (o_v (e_lc (own := [("way", 6)]) rfl sc__law_ways.nd (i_seq (e_var 3 (pv 3))) (blkOk_by (by kernel_rfl)) (fun _ _ _ _ _ => (g_nm 6 sc__law_ways.nd rfl (by first | exact Or.inl rfl | exact Or.inr rfl) (by first | exact Or.inl rfl | exact Or.inr rfl))) (fun _ _ _ _ _ => (f_one (t_eq hr (o_v (e_len Ev.z_len (a_cons (o_pk 6 (pv 6)) a_nil))) (o_pk 8 (pv 8))))) (fun _ _ _ _ _ => (e_var 6 (pv 6))))) a_nil))))))) (ss_one (s_retV 7 (pv 7))))))))
def m__law_pairs : SM := seqM (asgM 1 (storeM [] gMkL)) (seqM (forM (srcM (varM 0)) (.nm 2) (asgM 1 (primM [.pk 1, .val (compM (srcM (varM 0)) (.nm 3) (primM [.pk 2, .pk 3] gLt) (storeM [.val (varM 2), .val (varM 3)] gMkT) [3])] gAdd))) (retVM 1))
def g__law_pairs : List T → Option Res := fnG 4 1 m__law_pairs
theorem d__law_pairs (Ev : Facts P w K mg base ca T0) : DefOk P w K mg base 1 "_law_pairs" st__law_pairs ["names"] (spF (WK K ca T0) g__law_pairs) := by
  obtain ⟨f, fd, hm, F⟩ := Ev.F__law_pairs
  exact def_of F hm bd__law_pairs (fn_ok (k := 0) F sc__law_pairs rfl rfl (by decide) rfl fun cdv A outer s H E hr => (ss_cons (s_set 1 sc__law_pairs.nd rfl (by first | exact Or.inl rfl | exact Or.inr rfl) (by first | exact Or.inl rfl | exact Or.inr rfl) (e_lst a_nil)) (ss_cons (s_for PassesOwn.never rfl (i_seq (e_var 0 (pv 0))) (g_nm 2 sc__law_pairs.nd rfl (by first | exact Or.inl rfl | exact Or.inr rfl) (by first | exact Or.inl rfl | exact Or.inr rfl)) (ss_one (s_set 1 sc__law_pairs.nd rfl (by first | exact Or.inl rfl | exact Or.inr rfl) (by first | exact Or.inl rfl | exact Or.inr rfl) (e_add (o_pk 1 (pv 1)) (o_v (e_lc (own := [("other", 3)]) rfl sc__law_pairs.nd (i_seq (e_var 0 (pv 0))) (blkOk_by (by kernel_rfl)) (fun _ _ _ _ _ => (g_nm 3 sc__law_pairs.nd rfl (by first | exact Or.inl rfl | exact Or.inr rfl) (by first | exact Or.inl rfl | exact Or.inr rfl))) (fun _ _ _ _ _ => (f_one (t_lt hr (o_pk 2 (pv 2)) (o_pk 3 (pv 3))))) (fun _ _ _ _ _ => (e_tup (a_cons (o_v (e_var 2 (pv 2))) (a_cons (o_v (e_var 3 (pv 3))) a_nil)))))))))) (ss_one (s_retV 1 (pv 1))))))
def m__law_grown : SM := seqM (asgM 2 (storeM [.val (storeM [] gMkT)] gMkL)) (seqM (forM (rng1M (.pk 0)) (.nm 3) (seqM (asgM 4 (storeM [] gMkL)) (seqM (forM (srcM (varM 2)) (.nm 5) (seqM (asgM 6 (iteM (primM [.pk 5, .val (storeM [] gMkT)] gNe) (primM [.val (primM [.pk 5] gMax1), .val (conM (.int 1))] gAdd) (conM (.int 0)))) (asgM 4 (primM [.pk 4, .val (compM (rng1M (.val (primM [.val (primM [.pk 6, .val (conM (.int 1))] gAdd), .pk 1] gMin2))) (.nm 7) yesM (primM [.pk 5, .val (storeM [.val (varM 7)] gMkT)] gAddE) [7])] gAdd)))) (asgM 2 (varM 4))))) (retVM 2))
def g__law_grown : List T → Option Res := fnG 8 2 m__law_grown
theorem d__law_grown (Ev : Facts P w K mg base ca T0) : DefOk P w K mg base 1 "_law_grown" st__law_grown ["many", "most"] (spF (WK K ca T0) g__law_grown) := by
  obtain ⟨f, fd, hm, F⟩ := Ev.F__law_grown
  exact def_of F hm bd__law_grown (fn_ok (k := 0) F sc__law_grown rfl rfl (by decide) rfl fun cdv A outer s H E hr => (ss_cons (s_set 2 sc__law_grown.nd rfl (by first | exact Or.inl rfl | exact Or.inr rfl) (by first | exact Or.inl rfl | exact Or.inr rfl) (e_lst (a_cons (o_v (e_tup a_nil)) a_nil))) (ss_cons (s_for PassesOwn.never rfl (i_rng1 Ev.z_range (o_pk 0 (pv 0))) (g_nm 3 sc__law_grown.nd rfl (by first | exact Or.inl rfl | exact Or.inr rfl) (by first | exact Or.inl rfl | exact Or.inr rfl)) (ss_cons (s_set 4 sc__law_grown.nd rfl (by first | exact Or.inl rfl | exact Or.inr rfl) (by first | exact Or.inl rfl | exact Or.inr rfl) (e_lst a_nil)) (ss_cons (s_for PassesOwn.never rfl (i_seq (e_var 2 (pv 2))) (g_nm 5 sc__law_grown.nd rfl (by first | exact Or.inl rfl | exact Or.inr rfl) (by first | exact Or.inl rfl | exact Or.inr rfl)) (ss_cons (s_set 6 sc__law_grown.nd rfl (by first | exact Or.inl rfl | exact Or.inr rfl) (by first | exact Or.inl rfl | exact Or.inr rfl) (e_ite (t_ne hr (o_pk 5 (pv 5)) (o_v (e_tup a_nil))) (e_add (o_v (e_max1 Ev.z_max (a_cons (o_pk 5 (pv 5)) a_nil))) (o_v e_int)) e_int)) (ss_one (s_set 4 sc__law_grown.nd rfl (by first | exact Or.inl rfl | exact Or.inr rfl) (by first | exact Or.inl rfl | exact Or.inr rfl) (e_add (o_pk 4 (pv 4)) (o_v (e_lc (own := [("k", 7)]) rfl sc__law_grown.nd (i_rng1 Ev.z_range (o_v (e_min Ev.z_min (a_cons (o_v (e_add (o_pk 6 (pv 6)) (o_v e_int))) (a_cons (o_pk 1 (pv 1)) a_nil))))) (blkOk_by (by kernel_rfl)) (fun _ _ _ _ _ => (g_nm 7 sc__law_grown.nd rfl (by first | exact Or.inl rfl | exact Or.inr rfl) (by first | exact Or.inl rfl | exact Or.inr rfl))) (fun _ _ _ _ _ => f_nil) (fun _ _ _ _ _ => (e_addE (o_pk 5 (pv 5)) (o_v (e_tup (a_cons (o_v (e_var 7 (pv 7))) a_nil)))))))))))) (ss_one (s_set 2 sc__law_grown.nd rfl (by first | exact Or.inl rfl | exact Or.inr rfl) (by first | exact Or.inl rfl | exact Or.inr rfl) (e_var 4 (pv 4))))))) (ss_one (s_retV 2 (pv 2))))))
def m__law_first : SM := seqM (asgM 1 (primM [.val (compM (srcM (varM 0)) (.nm 2) yesM (primM [.val (primM [.pk 2] gMax1), .val (conM (.int 1))] gAdd) [2])] gMin1)) (retM (storeM [.val (varM 1), .val (primM [.val (compM (srcM (varM 0)) (.nm 2) (primM [.val (primM [.val (primM [.pk 2] gMax1), .val (conM (.int 1))] gAdd), .pk 1] gEq) (varM 2) [2]), .val (conM (.int 0))] gIx)] gMkT))
def g__law_first : List T → Option Res := fnG 3 1 m__law_first
theorem d__law_first (Ev : Facts P w K mg base ca T0) : DefOk P w K mg base 1 "_law_first" st__law_first ["rows"] (spF (WK K ca T0) g__law_first) := by
  obtain ⟨f, fd, hm, F⟩ := Ev.F__law_first
  exact def_of F hm bd__law_first (fn_ok (k := 0) F sc__law_first rfl rfl (by decide) rfl fun cdv A outer s H E hr => (ss_cons (s_set 1 sc__law_first.nd rfl (by first | exact Or.inl rfl | exact Or.inr rfl) (by first | exact Or.inl rfl | exact Or.inr rfl) (e_min1 Ev.z_min (a_cons (o_v (e_lc (own := [("each", 2)]) rfl sc__law_first.nd (i_seq (e_var 0 (pv 0))) (blkOk_by (by kernel_rfl)) (fun _ _ _ _ _ => (g_nm 2 sc__law_first.nd rfl (by first | exact Or.inl rfl | exact Or.inr rfl) (by first | exact Or.inl rfl | exact Or.inr rfl))) (fun _ _ _ _ _ => f_nil) (fun _ _ _ _ _ => (e_add (o_v (e_max1 Ev.z_max (a_cons (o_pk 2 (pv 2)) a_nil))) (o_v e_int))))) a_nil))) (ss_one (s_ret (e_tup (a_cons (o_v (e_var 1 (pv 1))) (a_cons (o_v (e_ix (o_v (e_lc (own := [("each", 2)]) rfl sc__law_first.nd (i_seq (e_var 0 (pv 0))) (blkOk_by (by kernel_rfl)) (fun _ _ _ _ _ => (g_nm 2 sc__law_first.nd rfl (by first | exact Or.inl rfl | exact Or.inr rfl) (by first | exact Or.inl rfl | exact Or.inr rfl))) (fun _ _ _ _ _ => (f_one (t_eq hr (o_v (e_add (o_v (e_max1 Ev.z_max (a_cons (o_pk 2 (pv 2)) a_nil))) (o_v e_int))) (o_pk 1 (pv 1))))) (fun _ _ _ _ _ => (e_var 2 (pv 2))))) (o_v e_int))) a_nil)))))))
def m__law_made : SM := retM (storeM [.val (primM [.pk 0, .val (conM (.int 0))] gIx), .val (primM [.pk 0, .val (conM (.int 1))] gIx)] (gMake 0 g_Web_init))
def g__law_made : List T → Option Res := fnG 1 1 m__law_made
theorem d__law_made (Ev : Facts P w K mg base ca T0) : DefOk P w K mg base 9 "_law_made" st__law_made ["web"] (spF (WK K ca T0) g__law_made) := by
  obtain ⟨f, fd, hm, F⟩ := Ev.F__law_made
  exact def_of F hm bd__law_made (fn_ok (k := 8) F sc__law_made rfl rfl (by decide) rfl fun cdv A outer s H E hr => (ss_one (s_ret (e_make (d_Web_init Ev) (hr.mono (by decide)) (a_cons (o_v (e_ix (o_pk 0 (pv 0)) (o_v e_int))) (a_cons (o_v (e_ix (o_pk 0 (pv 0)) (o_v e_int))) a_nil))))))
def m__law_bright : SM := seqM (asgM 2 (primM [.pk 0, .val (conM (.int 0))] gIx)) (seqM (forM (srcM (storeM [.val (varM 2)] g__law_pairs)) (.tp [3, 4]) (seqM (asgM 5 (compM (srcM (storeM [.val (varM 0), .val (varM 3), .val (varM 4)] g__law_ways)) (.nm 6) yesM (compM (srcM (primM [.pk 6] (gSlC 1 (-1)))) (.nm 7) yesM (primM [.pk 1, .val (indexM (varM 2) (.pk 7))] gIx) [7]) [6])) (ifM (primM [.val (compM (srcM (varM 5)) (.nm 8) (primM [.val (primM [.pk 8] gLenSetG), .val (primM [.pk 8] gLen)] gEq) (varM 8) [8]), .val (storeM [] gMkL)] gEq) (retM (conM (.bl false))) (nopM)))) (retM (conM (.bl true))))
def g__law_bright : List T → Option Res := fnG 9 2 m__law_bright
theorem d__law_bright (Ev : Facts P w K mg base ca T0) : DefOk P w K mg base 3 "_law_bright" st__law_bright ["web", "paint"] (spF (WK K ca T0) g__law_bright) := by
  obtain ⟨f, fd, hm, F⟩ := Ev.F__law_bright
  exact def_of F hm bd__law_bright (fn_ok (k := 2) F sc__law_bright rfl rfl (by decide) rfl fun cdv A outer s H E hr => (ss_cons (s_set 2 sc__law_bright.nd rfl (by first | exact Or.inl rfl | exact Or.inr rfl) (by first | exact Or.inl rfl | exact Or.inr rfl) (e_ix (o_pk 0 (pv 0)) (o_v e_int))) (ss_cons (s_for PassesOwn.never rfl (i_seq (e_call (d__law_pairs Ev) (hr.mono (by decide)) (a_cons (o_v (e_var 2 (pv 2))) a_nil))) (g_tp2 3 4 rfl sc__law_bright.nd rfl (by first | exact Or.inl rfl | exact Or.inr rfl) (by first | exact Or.inl rfl | exact Or.inr rfl) rfl (by first | exact Or.inl rfl | exact Or.inr rfl) (by first | exact Or.inl rfl | exact Or.inr rfl)) (ss_cons (s_setLc (own := [("way", 6)]) 5 rfl sc__law_bright.nd rfl rfl (sw_true rfl rfl rfl (by decide +kernel)) (i_seq (e_call (d__law_ways Ev) (hr.mono (by decide)) (a_cons (o_v (e_var 0 (pv 0))) (a_cons (o_v (e_var 3 (pv 3))) (a_cons (o_v (e_var 4 (pv 4))) a_nil))))) (blkOk_by (by kernel_rfl)) (fun _ _ _ _ _ => (g_nm 6 sc__law_bright.nd rfl (by first | exact Or.inl rfl | exact Or.inr rfl) (by first | exact Or.inl rfl | exact Or.inr rfl))) (fun _ _ _ _ _ => f_nil) (fun _ _ _ _ _ => (e_lc (own := [("x", 7)]) rfl sc__law_bright.nd (i_seq (e_slC (o_pk 6 (pv 6)) c_int (c_neg c_int))) (blkOk_by (by kernel_rfl)) (fun _ _ _ _ _ => (g_nm 7 sc__law_bright.nd rfl (by first | exact Or.inl rfl | exact Or.inr rfl) (by first | exact Or.inl rfl | exact Or.inr rfl))) (fun _ _ _ _ _ => f_nil) (fun _ _ _ _ _ => (e_ix (o_pk 1 (pv 1)) (o_v (e_index hr (e_var 2 (pv 2)) (o_pk 7 (pv 7))))))))) (ss_one (s_if (t_eq hr (o_v (e_lc (own := [("row", 8)]) rfl sc__law_bright.nd (i_seq (e_var 5 (pv 5))) (blkOk_by (by kernel_rfl)) (fun _ _ _ _ _ => (g_nm 8 sc__law_bright.nd rfl (by first | exact Or.inl rfl | exact Or.inr rfl) (by first | exact Or.inl rfl | exact Or.inr rfl))) (fun _ _ _ _ _ => (f_one (t_eq hr (o_v (e_lenSetG Ev.z_len Ev.z_set (o_pk 8 (pv 8)))) (o_v (e_len Ev.z_len (a_cons (o_pk 8 (pv 8)) a_nil)))))) (fun _ _ _ _ _ => (e_var 8 (pv 8))))) (o_v (e_lst a_nil))) (ss_one (s_ret e_bl)) ss_nil)))) (ss_one (s_ret e_bl)))))
def m__law_right : SM := seqM (forM (rng1M (.val (conM (.int 3)))) (.nm 1) (seqM (asgM 2 (callIM 0 [.val (conM (.int 5)), .val (conM (.int 8))] g__law_web)) (seqM (asgM 3 (storeM [.val (varM 2)] g__law_made)) (seqM (asgTM [4, 5] (storeM [.val (compM (srcM (storeM [.val (primM [.val (primM [.pk 2, .val (conM (.int 0))] gIx)] gLen), .val (conM (.int 9))] g__law_grown)) (.nm 6) (storeM [.val (varM 2), .val (varM 6)] g__law_bright) (varM 6) [6])] g__law_first)) (seqM (ifM (notM (storeM [.val (storeM [.val (storeM [.val (varM 3)] g_fewest_paint), .val (storeM [.val (varM 3)] (gPerm [0] 1 g_fewest_paint)), .val (storeM [.val (varM 3)] g_first_paint), .val (storeM [.val (varM 3)] (gPerm [0] 1 g_first_paint))] gMkT), .val (storeM [.val (varM 4), .val (varM 4), .val (varM 5), .val (varM 5)] gMkT)] (g__law_same 4))) (retM (conM (.bl false))) (nopM)) (ifM (orM (primM [.val (storeM [.val (varM 3), .val (varM 5)] g_is_bright), .val (conM (.bl true))] gIsnB) (orM (primM [.pk 4, .val (primM [.val (storeM [.val (varM 3)] g_span), .val (conM (.int 1))] gSub2)] gLt) (primM [.val (primM [.pk 5] gLenSetT), .pk 4] gNe))) (retM (conM (.bl false))) (nopM))))))) (retM (conM (.bl true)))
def g__law_right : T → List T → Option (Res × T) := fnI 7 1 m__law_right
theorem d__law_right (Ev : Facts P w K mg base ca T0) : DefOk P w K mg base 12 "_law_right" st__law_right ["bowl"] (spI (WK K ca T0) g__law_right) := by
  obtain ⟨f, fd, hm, F⟩ := Ev.F__law_right
  exact def_of F hm bd__law_right (fn_okI (k := 11) F sc__law_right rfl rfl (by decide) rfl fun cdv A outer s H E hr => (ss_cons (s_for PassesOwn.never rfl (i_rng1 Ev.z_range (o_v e_int)) (g_nm 1 sc__law_right.nd rfl (by first | exact Or.inl rfl | exact Or.inr rfl) (by first | exact Or.inl rfl | exact Or.inr rfl)) (ss_cons (s_set 2 sc__law_right.nd rfl (by first | exact Or.inl rfl | exact Or.inr rfl) (by first | exact Or.inl rfl | exact Or.inr rfl) (e_callI 0 (d__law_web Ev) (hr.mono (by decide)) (pv 0) (a_cons (o_v e_int) (a_cons (o_v e_int) a_nil)))) (ss_cons (s_set 3 sc__law_right.nd rfl (by first | exact Or.inl rfl | exact Or.inr rfl) (by first | exact Or.inl rfl | exact Or.inr rfl) (e_call (d__law_made Ev) (hr.mono (by decide)) (a_cons (o_v (e_var 2 (pv 2))) a_nil))) (ss_cons (s_setT (is := [4, 5]) (e_call (d__law_first Ev) (hr.mono (by decide)) (a_cons (o_v (e_lc (own := [("each", 6)]) rfl sc__law_right.nd (i_seq (e_call (d__law_grown Ev) (hr.mono (by decide)) (a_cons (o_v (e_len Ev.z_len (a_cons (o_v (e_ix (o_pk 2 (pv 2)) (o_v e_int))) a_nil))) (a_cons (o_v e_int) a_nil)))) (blkOk_by (by kernel_rfl)) (fun _ _ _ _ _ => (g_nm 6 sc__law_right.nd rfl (by first | exact Or.inl rfl | exact Or.inr rfl) (by first | exact Or.inl rfl | exact Or.inr rfl))) (fun _ _ _ _ _ => (f_one (t_val (e_call (d__law_bright Ev) (hr.mono (by decide)) (a_cons (o_v (e_var 2 (pv 2))) (a_cons (o_v (e_var 6 (pv 6))) a_nil)))))) (fun _ _ _ _ _ => (e_var 6 (pv 6))))) a_nil)) (gn2 4 5 rfl sc__law_right.nd rfl (by first | exact Or.inl rfl | exact Or.inr rfl) (by first | exact Or.inl rfl | exact Or.inr rfl) rfl (by first | exact Or.inl rfl | exact Or.inr rfl) (by first | exact Or.inl rfl | exact Or.inr rfl))) (ss_cons (s_if (t_not (t_val (e_call (d__law_same Ev 4) (hr.mono (by decide)) (a_cons (o_v (e_tup (a_cons (o_v (e_call (d_fewest_paint Ev) (hr.mono (by decide)) (a_cons (o_v (e_var 3 (pv 3))) a_nil))) (a_cons (o_v (e_callK (ks := ["web"]) [0] (d_fewest_paint Ev) (hr.mono (by decide)) (k_cons (o_v (e_var 3 (pv 3))) k_nil) (fun x q kV doc pm an cdv ct ws h1 hl => match ws, hl with | [_], _ => rfl))) (a_cons (o_v (e_call (d_first_paint Ev) (hr.mono (by decide)) (a_cons (o_v (e_var 3 (pv 3))) a_nil))) (a_cons (o_v (e_callK (ks := ["web"]) [0] (d_first_paint Ev) (hr.mono (by decide)) (k_cons (o_v (e_var 3 (pv 3))) k_nil) (fun x q kV doc pm an cdv ct ws h1 hl => match ws, hl with | [_], _ => rfl))) a_nil)))))) (a_cons (o_v (e_tup (a_cons (o_v (e_var 4 (pv 4))) (a_cons (o_v (e_var 4 (pv 4))) (a_cons (o_v (e_var 5 (pv 5))) (a_cons (o_v (e_var 5 (pv 5))) a_nil)))))) a_nil))))) (ss_one (s_ret e_bl)) ss_nil) (ss_one (s_if (t_w (w_or (t_isnB (o_v (e_call (d_is_bright Ev) (hr.mono (by decide)) (a_cons (o_v (e_var 3 (pv 3))) (a_cons (o_v (e_var 5 (pv 5))) a_nil)))) (o_v e_bl)) (w_or (t_lt hr (o_pk 4 (pv 4)) (o_v (e_sub (o_v (e_call (d_span Ev) (hr.mono (by decide)) (a_cons (o_v (e_var 3 (pv 3))) a_nil))) (o_v e_int)))) (w_or1 (t_ne hr (o_v (e_lenSetT Ev.z_len Ev.z_set (o_pk 5 (pv 5)))) (o_pk 4 (pv 4))))))) (ss_one (s_ret e_bl)) ss_nil))))))) (ss_one (s_ret e_bl))))
def m_law : SM := retM (primM [.val (compM (rng1M (.val (primM [.val (conM (.int 1)), .val (primM [.val (primM [.pk 0] gLen), .val (conM (.int 3))] gMin2)] gMax2))) (.nm 1) yesM (callTM [.val (storeM [.val (varM 0), .val (varM 1)] g__law_bowl)] g__law_right) [1])] gAll)
def g_law : List T → Option Res := fnG 2 1 m_law
theorem d_law (Ev : Facts P w K mg base ca T0) : DefOk P w K mg base 13 "law" st_law ["script"] (spF (WK K ca T0) g_law) := by
  obtain ⟨f, fd, hm, F⟩ := Ev.F_law
  exact def_of F hm bd_law (fn_ok (k := 12) F sc_law rfl rfl (by decide) rfl fun cdv A outer s H E hr => (ss_one (s_ret (e_all Ev.z_all (a_cons (o_v (e_lc (own := [("lap", 1)]) rfl sc_law.nd (i_rng1 Ev.z_range (o_v (e_max Ev.z_max (a_cons (o_v e_int) (a_cons (o_v (e_min Ev.z_min (a_cons (o_v (e_len Ev.z_len (a_cons (o_pk 0 (pv 0)) a_nil))) (a_cons (o_v e_int) a_nil)))) a_nil))))) (blkOk_by (by kernel_rfl)) (fun _ _ _ _ _ => (g_nm 1 sc_law.nd rfl (by first | exact Or.inl rfl | exact Or.inr rfl) (by first | exact Or.inl rfl | exact Or.inr rfl))) (fun _ _ _ _ _ => f_nil) (fun _ _ _ _ _ => (e_callT (d__law_right Ev) (hr.mono (by decide)) (a_cons (o_v (e_call (d__law_bowl Ev) (hr.mono (by decide)) (a_cons (o_v (e_var 0 (pv 0))) (a_cons (o_v (e_var 1 (pv 1))) a_nil)))) a_nil))))) a_nil)))))
end
end Rv
end

section
set_option Elab.async false
set_option autoImplicit false
set_option linter.all false
set_option maxRecDepth 100000
set_option maxHeartbeats 200000
namespace Rv
open PySem PySem.Spec L2 LamX NdefX
open PyProof.Rows hiding St
theorem fnG_of {n np : Nat} {m : SM} {ts : List T} {r : Res} (h : ts.length = np) (g : Go (m (start0 n ts)) fun x => outR (some x) = some r) : fnG n np m ts = some r := by
  unfold fnG
  rw [if_pos h]
  obtain ⟨x, e, q⟩ := g
  rw [e]
  exact q
/-- a list or a tuple of l -/
def Seq (t : T) (l : List T) : Prop := t = .lst l ∨ ∃ k, t = .tup k l
theorem src_seq {t : T} {l : List T} {ρ ρ' : Rho} {f : M} (h : Seq t l) (e : f ρ = some ((t, false), ρ')) : srcM f ρ = some (l, ρ') := by
  unfold srcM
  rw [e]
  rcases h with rfl | ⟨k, rfl⟩ <;> rfl
theorem go_ret {f : M} {ρ : Rho} {Q : Out × Rho → Prop} (h : Go (f ρ) fun x => Q (.rt x.1, x.2)) : Go (retM f ρ) Q := by
  obtain ⟨x, e, q⟩ := h
  unfold retM
  rw [e]
  exact ⟨_, rfl, q⟩
@[simp] theorem mkT0 : gMkT [] = some (.tup false [], false) := if_pos (by decide)
@[simp] theorem mkT1 {a : T} : gMkT [a] = some (.tup false [a], false) := if_pos (by show 1 ≤ 16777216; decide)
@[simp] theorem mkT2 {a b : T} : gMkT [a, b] = some (.tup false [a, b], false) := if_pos (by show 2 ≤ 16777216; decide)
@[simp] theorem mkT3 {a b c : T} : gMkT [a, b, c] = some (.tup false [a, b, c], false) := if_pos (by show 3 ≤ 16777216; decide)
@[simp] theorem mkL0 : gMkL [] = some (.lst [], true) := if_pos (by decide)
@[simp] theorem mkL1 {a : T} : gMkL [a] = some (.lst [a], true) := if_pos (by show 1 ≤ 16777216; decide)
@[simp] theorem mkL2 {a b : T} : gMkL [a, b] = some (.lst [a, b], true) := if_pos (by show 2 ≤ 16777216; decide)
@[simp] theorem mkL3 {a b c : T} : gMkL [a, b, c] = some (.lst [a, b, c], true) := if_pos (by show 3 ≤ 16777216; decide)
theorem beside_eq {t : T} {E : List (Str × Str)} {p : Str} (ht : Seq t (tP E)) (hl : E.length ≤ lim) : g_beside [t, .str p] = some (.lst (tS (nbrs E p)), true) := by
  refine fnG_of rfl (go_ret (go_of (comp_map (ρw := [some (t, .fr), some (.str p, .fr), none, none]) (F := pr) (l := E) (p := fun e => decide (p = e.1) || decide (p = e.2)) (G := fun e => .str (if e.2 = p then e.1 else e.2)) (src_seq ht rfl) rfl hl fun e he => ?_) ?_))
  · obtain ⟨a, b⟩ := e
    refine ⟨[some (t, .fr), some (.str p, .fr), some (.str a, .fr), some (.str b, .fr)], rfl, ?_⟩
    by_cases h2 : p = b
    · subst h2
      simp [turnM, rget, in_2, eq_str, wipeR, wipe1R]
    · have h3 : ¬ b = p := fun z => h2 z.symm
      by_cases h1 : p = a
      · subst h1
        simp [turnM, rget, in_2, eq_str, wipeR, wipe1R, h2, h3]
      · simp [turnM, rget, in_2, eq_str, wipeR, wipe1R, h1, h2, h3]
  · simp [outR, nbrs, tS]

/-- a slot that may be written -/
def Nio (s : Option (T × Own)) : Prop := ∀ o, s = some o → o.2 ≠ .io
theorem nio_none : Nio none := fun _ h => nomatch h
theorem nio_fr {t : T} : Nio (some (t, .fr)) := fun _ h => by cases h; exact fun z => nomatch z
theorem setM_nio {ρ : Rho} {i : Nat} {t : T} {b : Bool} {s : Option (T × Own)} (h : rget ρ i = s) (n : Nio s) (hl : i < ρ.length) : setM ρ i t b = some (ρ.set i (some (t, if b then .ow else .fr))) := by
  unfold setM
  rw [h]
  rcases s with _ | ⟨t', o⟩
  · simp [hl]
  · cases o with
    | io => exact absurd rfl (n _ rfl)
    | fr => simp [hl]
    | ow => simp [hl]
theorem ne_nil {l : List Str} : gNe [.lst (tS l), .lst []] = some (.bl (!decide (l = [])), false) := by
  have := teqL_S (l := l) (m := [])
  simp only [gNe]
  rw [if_pos ⟨by show dOkL 11 (tS l) = true; exact dOkL_S, rfl⟩]
  simp only [teq]
  rw [show ([] : List T) = tS [] from rfl, this]
theorem hasK_S {F : List Str} {y : Str} : hasK (F.map Sum.inr : List Key) (.inr y) = decide (y ∈ F) := by
  unfold hasK
  rw [List.any_map]
  by_cases h : y ∈ F
  · rw [decide_eq_true h, List.any_eq_true]
    exact ⟨y, h, by simp⟩
  · rw [decide_eq_false h, List.any_eq_false]
    intro x hx
    simp only [Function.comp, decide_eq_true_eq]
    intro e
    cases e
    exact h hx
theorem inK_S {neg : Bool} {F : List Str} {vs : List T} {y : Str} : gInK neg [.str y, .dic (F.map Sum.inr) vs] = some (.bl (neg ^^ decide (y ∈ F)), false) := by
  simp only [gInK, kOf]
  rw [hasK_S]
theorem putK_new {F : List Str} {y : Str} {n : Nat} {t : T} (h : y ∉ F) : putL (F.map Sum.inr : List Key) (List.replicate n t) (.inr y) t = ((F ++ [y]).map Sum.inr, List.replicate (n + 1) t) := by
  unfold putL
  rw [hasK_S, decide_eq_false h]
  simp [List.replicate_succ']
theorem pop_end {l : List T} {x : T} : gPop (.lst (l ++ [x])) [] = some (.lst l, x) := by
  simp [gPop]
theorem eq_int {i j : Int} : gEq [.int i, .int j] = some (.bl (decide (i = j)), false) := gEqI
theorem ix0 {t : T} {x : T} {l : List T} (h : Seq t (x :: l)) : gIx [t, .int 0] = some (x, false) := by
  rcases h with rfl | ⟨k, rfl⟩ <;> simp [gIx, atI, ixN]
theorem len_seq {t : T} {l : List T} (h : Seq t l) : gLen [t] = some (.int l.length, false) := by
  rcases h with rfl | ⟨k, rfl⟩ <;> rfl
theorem len_dic {ks : List Key} {l : List T} : gLen [.dic ks l] = some (.int ks.length, false) := rfl
theorem lim_val : lim = 16777216 := rfl
theorem src_ll {l : List T} {b : Bool} {ρ ρ' : Rho} {f : M} (e : f ρ = some ((.lst l, b), ρ')) : srcM f ρ = some (l, ρ') := by
  unfold srcM
  rw [e]
def HR (Pt Et : T) (P F L : List Str) (s4 : Option (T × Own)) : Rho := [some (Pt, .fr), some (Et, .fr), some (.dic (F.map Sum.inr) (List.replicate F.length (.bl true)), .ow), some (.lst (tS L), .ow), s4]
theorem do_hang_eq {Pt Et : T} {P : List Str} {E : List (Str × Str)} {p0 : Str} {P' : List Str} (hPt : Seq Pt (tS P)) (hEt : Seq Et (tP E)) (hE : E.length ≤ 100) (hP0 : P = p0 :: P') (hPn : P.Nodup) (hPl : P.length ≤ 100) (hI : EdgesIn E P) :
    ∃ b : Bool, g_do_hang [Pt, Et] = some (.bl b, false) ∧ (b = true ↔ ∀ y ∈ P, Reach E p0 y) := by
  suffices h : Go (m_do_hang (start0 5 [Pt, Et])) fun x => ∃ b : Bool, outR (some x) = some (.bl b, false) ∧ (b = true ↔ ∀ y ∈ P, Reach E p0 y) by
    obtain ⟨x, e, b, e2, q⟩ := h
    exact ⟨b, fnG_of rfl ⟨x, e, e2⟩, q⟩
  have hp0 : p0 ∈ P := by rw [hP0]; exact List.mem_cons_self
  have hix : gIx [Pt, .int 0] = some (.str p0, false) := ix0 (l := tS P') (by rw [hP0] at hPt; exact hPt)
  have hlen : gLen [Pt] = some (.int P.length, false) := by rw [len_seq hPt]; simp [tS]
  unfold m_do_hang
  refine go_seq ⟨(.nx, HR Pt Et P [p0] [p0] none), by simp [parM, dispM, hix, rget, kOf, HR, tS], ?_⟩
  refine go_seq ?_
  refine go_while (I := fun n ρ => ∃ F L s4, ρ = HR Pt Et P F L s4 ∧ Nio s4 ∧ HI E P p0 F L ∧ n = 2 * (P.length - F.length) + L.length ∧ n ≤ 1000) ?_ 1000000 _ _ ?_ ⟨[p0], [p0], none, rfl, nio_none, HI.start hp0, rfl, by simp; omega⟩
  · rintro n ρ ⟨F, L, s4, rfl, n4, hi, rfl, hn⟩
    refine ⟨!decide (L = []), HR Pt Et P F L s4, by simp [HR, rget, ne_nil], fun hb => ?_, fun hb => ?_⟩
    · have hL : L = [] := by simpa using hb
      subst hL
      refine go_ret ⟨_, by simp [HR, rget, hlen, len_dic, eq_int]; exact rfl, ?_⟩
      refine ⟨_, rfl, ?_⟩
      rw [← hi.end hPn]
      simp
      omega
    · have hL : L ≠ [] := by simpa using hb
      obtain ⟨L', x, rfl⟩ : ∃ L' x, L = L' ++ [x] := ⟨_, _, (List.dropLast_concat_getLast hL).symm⟩
      have hj := hi.pop
      have hbs := beside_eq (p := x) hEt (lim_ge (by omega))
      refine go_for (ts := (nbrs E x).map T.str) (ρ1 := HR Pt Et P F L' s4) (src_ll (b := true) (by simp [HR, mutTM, mutM, ownM, rget, tyT, valsR, pop_end, hbs])) ?_
      refine go_loopM (J := fun done rest ρ => ∃ F1 L1 s, ρ = HR Pt Et P F1 L1 s ∧ Nio s ∧ HJ E P p0 x done F1 L1 ∧ 2 * (P.length - F1.length) + L1.length + 1 ≤ 2 * (P.length - F.length) + (L' ++ [x]).length) ?_ ?_ ⟨F, L', s4, rfl, n4, hj, by simp; omega⟩
      · rintro ρ ⟨F1, L1, s, rfl, ns, hj1, hm⟩
        exact ⟨_, Nat.lt_of_lt_of_le (Nat.lt_succ_self _) hm, F1, L1, s, rfl, ns, hj1.shutAll, rfl, Nat.le_trans (Nat.le_of_succ_le hm) hn⟩
      · rintro done y rest ρ hl ⟨F1, L1, s, rfl, ns, hj1, hm⟩
        have he : adj E x y := mem_nbrs.mp (by rw [hl]; simp)
        have hF1 : F1.length ≤ P.length := nodup_le hj1.nd hj1.inP
        refine ⟨HR Pt Et P F1 L1 (some (.str y, .fr)), by simp only [tgM]; rw [setM_nio (s := s) rfl ns (by simp [HR])]; rfl, ?_⟩
        by_cases hy : y ∈ F1
        · refine ⟨(.nx, HR Pt Et P F1 L1 (some (.str y, .fr))), by simp [ifM, HR, rget, inK_S, hy], F1, L1, _, rfl, nio_fr, hj1.old hy, hm⟩
        · have hF2 := nodup_le (hj1.new hy he hI).nd (hj1.new hy he hI).inP
          have hL1 : L1.length < lim := by simp only [lim_val]; simp only [List.length_append, List.length_cons, List.length_nil] at hm hn; omega
          have hF3 : F1.length < lim := by simp only [lim_val]; omega
          simp only [List.length_append, List.length_cons, List.length_nil] at hF2 hm
          refine ⟨(.nx, HR Pt Et P (F1 ++ [y]) (L1 ++ [y]) (some (.str y, .fr))), ?_, F1 ++ [y], L1 ++ [y], _, rfl, nio_fr, hj1.new hy he hI, by simp only [List.length_append, List.length_cons, List.length_nil]; omega⟩
          simp [ifM, seqM, HR, rget, inK_S, hy, mutM, ownM, valsR, gDPut, kOf, putK_new hy, mutTM, tyT, gAppend, hL1, hF3]
  · simp only [List.length_cons, List.length_nil]
    omega
end Rv
end

section
set_option Elab.async false
set_option autoImplicit false
set_option linter.all false
set_option maxRecDepth 100000
set_option maxHeartbeats 200000
namespace Rv
open PySem PySem.Spec L2 LamX NdefX
open PyProof.Rows hiding St
/-! ### the web's value, what is asked of it -/
abbrev wP (P : List Str) : T := .tup true (tS P)
abbrev wE (E : List (Str × Str)) : T := .tup true (tP E)
def wV (P : List Str) (E : List (Str × Str)) : T := .ins 0 ["all_told"] [.tup false [wP P, wE E]]
theorem places_eq {P : List Str} {E : List (Str × Str)} : gProp 0 g_Web_places [wV P E] = some (wP P, false) := by
  simp only [gProp, wV, if_true]
  refine fnG_of rfl ?_
  simp [m_Web_places, rget, gFld, gIx, atI, ixN, outR]
theorem ties_eq {P : List Str} {E : List (Str × Str)} : gProp 0 g_Web_ties [wV P E] = some (wE E, false) := by
  simp only [gProp, wV, if_true]
  refine fnG_of rfl ?_
  simp [m_Web_ties, rget, gFld, gIx, atI, ixN, outR]
theorem check_eq {P : List Str} {E : List (Str × Str)} : g_check_web [wV P E] = some (.non, false) := by
  refine fnG_of rfl ?_
  simp [m_check_web, ifM, rget, gIsC, wV, outR]
theorem all_iff {P P' : List Str} {E : List (Str × Str)} {p0 : Str} (h : P = p0 :: P') : (∀ y ∈ P, Reach E p0 y) ↔ ∀ x ∈ P, ∀ y ∈ P, Reach E x y :=
  ⟨fun k x hx y hy => (k x hx).symm.trans (k y hy), fun k y hy => k p0 (by rw [h]; exact List.mem_cons_self) y hy⟩
theorem hangT_eq {Pt Et : T} {P : List Str} {E : List (Str × Str)} (hPt : Seq Pt (tS P)) (hEt : Seq Et (tP E)) (hE : E.length ≤ 100) (hP0 : P ≠ []) (hPn : P.Nodup) (hPl : P.length ≤ 100) (hI : EdgesIn E P) : g_do_hang [Pt, Et] = some (.bl (hangB P E), false) := by
  obtain ⟨p0, P', rfl⟩ := List.exists_cons_of_ne_nil hP0
  obtain ⟨b, e, h⟩ := do_hang_eq hPt hEt hE rfl hPn hPl hI
  rw [e]
  congr 3
  rw [all_iff rfl, ← hang_iff] at h
  cases b <;> cases q : hangB (p0 :: P') E <;> simp_all
theorem srcP {f : M} {ρ ρ' : Rho} {P : List Str} (e : f ρ = some ((wP P, false), ρ')) : srcM f ρ = some (P.map T.str, ρ') := by
  unfold srcM
  rw [e]
theorem srcE {f : M} {ρ ρ' : Rho} {E : List (Str × Str)} (e : f ρ = some ((wE E, false), ρ')) : srcM f ρ = some (E.map pr, ρ') := by
  unfold srcM
  rw [e]
theorem wipe_nio {ρ : Rho} {i : Nat} {s : Option (T × Own)} (h : rget ρ i = s) (n : Nio s) (hl : i < ρ.length) : wipeR [i] ρ = some (ρ.set i none) := by
  simp only [wipeR, wipe1R]
  rw [h]
  rcases s with _ | ⟨t', o⟩
  · simp [hl]
  · cases o with
    | io => exact absurd rfl (n _ rfl)
    | fr => simp [hl]
    | ow => simp [hl]
theorem asg_nio {ρ ρ1 : Rho} {i : Nat} {m : M} {t : T} {b : Bool} {s : Option (T × Own)} (e : m ρ = some ((t, b), ρ1)) (h : rget ρ1 i = s) (n : Nio s) (hl : i < ρ1.length) : asgM i m ρ = some (.nx, ρ1.set i (some (t, if b then .ow else .fr))) := by
  have := setM_nio (t := t) (b := b) h n hl
  unfold asgM
  rw [e]
  simp only
  rw [this]
theorem gt_int {i j : Int} : gGt [.int i, .int j] = some (.bl (decide (j < i)), false) := by
  simp [gGt, gCmp, dOk, pd, PySem.W.alike, PySem.W.dataLt_int, isNon]
theorem edges_apart {P : List Str} {E : List (Str × Str)} {p : Str} (hI : EdgesIn E P) : EdgesIn (apart E p) (others P p) := by
  intro e he
  obtain ⟨h1, h2⟩ := List.mem_filter.mp he
  simp only [Bool.not_eq_true', Bool.or_eq_false_iff, decide_eq_false_iff_not] at h2
  obtain ⟨h3, h4⟩ := hI e h1
  exact ⟨List.mem_filter.mpr ⟨h3, by simpa using fun z => h2.1 z.symm⟩, List.mem_filter.mpr ⟨h4, by simpa using fun z => h2.2 z.symm⟩⟩
theorem others_len {P : List Str} {p : Str} (hn : P.Nodup) (hp : p ∈ P) : (others P p).length + 1 = P.length := by
  have h1 : p ∉ others P p := fun z => by simpa using (List.mem_filter.mp z).2
  have h2 : (p :: others P p).Nodup := List.nodup_cons.mpr ⟨h1, hn.filter _⟩
  have := (nodup_all h2 hn (fun x hx => by
    rcases List.mem_cons.mp hx with rfl | hx
    · exact hp
    · exact (List.mem_filter.mp hx).1)).mpr fun x hx => by
      by_cases h : x = p
      · subst h; exact List.mem_cons_self
      · exact List.mem_cons_of_mem _ (List.mem_filter.mpr ⟨hx, by simp [h]⟩)
  simpa using this
noncomputable def cutsP (P : List Str) (E : List (Str × Str)) : List Str := if 2 < P.length then P.filter (cutB P E) else []
theorem not_in2 {neg : Bool} {x : Str} {e : Str × Str} : gIn neg [.str x, pr e] = some (.bl (neg ^^ (decide (x = e.1) || decide (x = e.2))), false) := in_2
end Rv
end

section
set_option Elab.async false
set_option autoImplicit false
set_option linter.all false
set_option maxRecDepth 100000
set_option maxHeartbeats 200000
namespace Rv
open PySem PySem.Spec L2 LamX NdefX
open PyProof.Rows hiding St
/-! ### the law's own search -/
abbrev wL (P : List Str) (E : List (Str × Str)) : T := .tup false [wP P, wE E]
theorem wL0 {P : List Str} {E : List (Str × Str)} : gIx [wL P E, .int 0] = some (wP P, false) := by simp [gIx, atI, ixN]
theorem wL1 {P : List Str} {E : List (Str × Str)} : gIx [wL P E, .int 1] = some (wE E, false) := by simp [gIx, atI, ixN]
theorem law_beside_eq {P : List Str} {E : List (Str × Str)} {p : Str} (hP : P.length ≤ 100) : g__law_beside [wL P E, .str p] = some (.lst (tS (lnbrs P E p)), true) := by
  refine fnG_of rfl (go_ret (go_of (comp_map (ρ1 := [some (wL P E, .fr), some (.str p, .fr), none]) (ρw := [some (wL P E, .fr), some (.str p, .fr), none]) (F := T.str) (G := T.str) (l := P) (p := fun x => decide ((p, x) ∈ E) || decide ((x, p) ∈ E)) (srcP (by simp [rget, wL0])) rfl (lim_ge (by omega)) fun x hx => ?_) ?_))
  · refine ⟨[some (wL P E, .fr), some (.str p, .fr), some (.str x, .fr)], rfl, ?_⟩
    by_cases h1 : (p, x) ∈ E <;> by_cases h2 : (x, p) ∈ E <;> simp [turnM, rget, wL1, in_P, h1, h2, wipeR, wipe1R]
  · simp [outR, lnbrs, tS]
abbrev wy (w : List Str) : T := .tup false (tS w)
abbrev tW (ws : List (List Str)) : List T := ws.map wy
theorem ix_last {w : List Str} {k : Bool} (h : w ≠ []) : gIx [.tup k (tS w), .int (-1)] = some (.str (lastOf w), false) := by
  obtain ⟨v, x, rfl⟩ : ∃ v x, w = v ++ [x] := ⟨_, _, (List.dropLast_concat_getLast h).symm⟩
  have h1 : ixN (tS (v ++ [x])).length (-1) = some v.length := by
    simp only [ixN, tS, List.length_map, List.length_append, List.length_cons, List.length_nil]
    rw [if_neg (by decide), if_pos (by omega)]
    congr 1
    omega
  simp only [gIx, atI, h1, lastOf]
  simp [tS]
theorem add_way {w : List Str} {y : Str} {k k' : Bool} (h : w ≠ []) (hl : w.length ≤ 1000) : gAdd [.tup k (tS w), .tup k' [.str y]] = some (wy (w ++ [y]), false) := by
  obtain ⟨a, v, rfl⟩ := List.exists_cons_of_ne_nil h
  simp only [List.length_cons] at hl
  simp only [gAdd, tS, List.map_cons]
  rw [if_pos (by simp only [List.length_map, List.length_nil, lim_val]; omega)]
  simp [wy, tS]
theorem add_ll {l m : List T} (h : l.length + m.length ≤ lim) : gAdd [.lst l, .lst m] = some (.lst (l ++ m), true) := if_pos h
theorem teqL_nil {l : List T} : teqL l [] = decide (l = []) := by cases l <;> rfl
theorem dOk_way {n : Nat} {w : List Str} : dOk (n + 1) (wy w) = true := dOkL_S
theorem dOkL_W {n : Nat} : ∀ {l : List (List Str)}, dOkL (n + 1) (tW l) = true
  | [] => rfl
  | x :: l => by
    have := dOkL_W (n := n) (l := l)
    simp only [tW, List.map_cons] at this ⊢
    unfold dOkL
    rw [this, dOk_way]
    rfl
theorem ne_nilW {l : List (List Str)} : gNe [.lst (tW l), .lst []] = some (.bl (!decide (l = [])), false) := by
  simp only [gNe]
  rw [if_pos ⟨by show dOkL 11 (tW l) = true; exact dOkL_W, rfl⟩]
  simp only [teq]
  rw [teqL_nil]
  cases l <;> simp
/-- the states of the search -/
def LW (P : List Str) (E : List (Str × Str)) (a b : Str) (found edge : List (List Str)) (o4 : Own) (s5 s6 s9 : Option (T × Own)) : Rho :=
  [some (wL P E, .fr), some (.str a, .fr), some (.str b, .fr), some (.lst (tW found), .ow), some (.lst (tW edge), o4), s5, s6, none, none, s9]
theorem level_snoc {P : List Str} {E : List (Str × Str)} {b : Str} {l : List (List Str)} {w : List Str} : level P E b (l ++ [w]) = level P E b l ++ (if atEnd b w = true then [] else onward P E w) := by
  unfold level
  rw [List.filter_append, List.flatMap_append]
  cases h : atEnd b w <;> simp [h]
theorem level_len {P : List Str} {E : List (Str × Str)} {b : Str} {l : List (List Str)} (hP : P.length ≤ 6) : (level P E b l).length ≤ l.length * 6 :=
  Nat.le_trans (flatMap_len (n := 6) fun w _ => onward_len hP) (Nat.mul_le_mul_right _ (List.length_filter_le _ _))
theorem law_level {P : List Str} {E : List (Str × Str)} {a b : Str} {found edge : List (List Str)} {k : Nat} {s5 s6 s9 : Option (T × Own)} (hP : P.length ≤ 6) (hE : EdgesIn E P) (ha : a ∈ P) (h : LI P E a b k found edge) (hk : k ≤ 6) (n6 : Nio s6) (n9 : Nio s9) {Q : Out × Rho → Prop}
    (q : ∀ s6 s9, Nio s6 → Nio s9 → Q (.nx, LW P E a b (found ++ edge.filter (atEnd b)) edge .fr (some (.lst (tW (level P E b edge)), .ow)) s6 s9)) :
    Go (forLoop (.nm 6) (ifM (primM [.val (primM [.pk 6, .val (conM (.int (-1)))] gIx), .pk 2] gEq) (dropM (mutTM "list" 3 [.val (varM 6)] gAppend)) (asgM 5 (primM [.pk 5, .val (compM (srcM (storeM [.val (varM 0), .val (primM [.pk 6, .val (conM (.int (-1)))] gIx)] g__law_beside)) (.nm 9) (primM [.pk 9, .pk 6] (gIn true)) (primM [.pk 6, .val (storeM [.val (varM 9)] gMkT)] gAdd) [9])] gAdd)))
      (edge.map wy) (LW P E a b found edge .fr (some (.lst [], .ow)) s6 s9)) Q := by
  have b1 : 6 ^ k ≤ 6 ^ 6 := Nat.pow_le_pow_right (by decide) hk
  have b2 := h.small
  have b3 := h.smallF
  have b4 : k * 6 ^ 7 ≤ 6 * 6 ^ 7 := Nat.mul_le_mul_right _ hk
  refine go_loopM (J := fun done rest ρ => ∃ s6 s9, ρ = LW P E a b (found ++ done.filter (atEnd b)) edge .fr (some (.lst (tW (level P E b done)), .ow)) s6 s9 ∧ Nio s6 ∧ Nio s9) ?_ ?_ ⟨s6, s9, by simp [LW, level], n6, n9⟩
  · rintro ρ ⟨s6, s9, rfl, n6, n9⟩
    exact q s6 s9 n6 n9
  · rintro done w rest ρ hl ⟨s6, s9, rfl, n6, n9⟩
    have hw : w ∈ edge := by rw [hl]; simp
    obtain ⟨x, p, hwl⟩ := h.edge1 w hw
    have hdl : done.length ≤ edge.length := by rw [hl]; simp
    have hfl := List.length_filter_le (atEnd b) done
    have hll := level_len (E := E) (b := b) (l := done) hP
    refine ⟨LW P E a b (found ++ done.filter (atEnd b)) edge .fr (some (.lst (tW (level P E b done)), .ow)) (some (wy w, .fr)) s9, by simp only [tgM]; rw [setM_nio (s := s6) rfl n6 (by simp [LW])]; rfl, ?_⟩
    have hix : gIx [wy w, .int (-1)] = some (.str x, false) := by rw [ix_last p.ne, p.lastOf]
    have hc : primM [.val (primM [.pk 6, .val (conM (.int (-1)))] gIx), .pk 2] gEq (LW P E a b (found ++ done.filter (atEnd b)) edge .fr (some (.lst (tW (level P E b done)), .ow)) (some (wy w, .fr)) s9) = some ((.bl (atEnd b w), false), LW P E a b (found ++ done.filter (atEnd b)) edge .fr (some (.lst (tW (level P E b done)), .ow)) (some (wy w, .fr)) s9) := by
      simp [LW, rget, hix, eq_str, atEnd, p.lastOf]
    refine go_if hc ?_
    rcases Bool.eq_false_or_eq_true (atEnd b w) with hb | hb <;> rw [hb]
    · have hfl2 : (found ++ done.filter (atEnd b)).length < lim := by rw [List.length_append]; simp only [lim_val]; omega
      rw [List.length_append] at hfl2
      refine ⟨(.nx, LW P E a b (found ++ (done ++ [w]).filter (atEnd b)) edge .fr (some (.lst (tW (level P E b (done ++ [w]))), .ow)) (some (wy w, .fr)) s9), ?_, _, _, rfl, nio_fr, n9⟩
      simp [LW, mutTM, mutM, ownM, rget, tyT, valsR, gAppend, hfl2, List.filter_append, hb, level_snoc]
    · have c1 := comp_map (ρ := LW P E a b (found ++ done.filter (atEnd b)) edge .fr (some (.lst (tW (level P E b done)), .ow)) (some (wy w, .fr)) s9) (ρ1 := LW P E a b (found ++ done.filter (atEnd b)) edge .fr (some (.lst (tW (level P E b done)), .ow)) (some (wy w, .fr)) s9) (ρw := LW P E a b (found ++ done.filter (atEnd b)) edge .fr (some (.lst (tW (level P E b done)), .ow)) (some (wy w, .fr)) none)
        (src := srcM (storeM [.val (varM 0), .val (primM [.pk 6, .val (conM (.int (-1)))] gIx)] g__law_beside)) (tg := .nm 9) (cnd := primM [.pk 9, .pk 6] (gIn true)) (elt := primM [.pk 6, .val (storeM [.val (varM 9)] gMkT)] gAdd) (vs := [9]) (F := T.str) (G := fun y => wy (w ++ [y])) (l := lnbrs P E x) (p := fun y => !decide (y ∈ w))
        (src_ll (b := true) (by simp [LW, rget, hix, law_beside_eq (p := x) (E := E) (P := P) (by omega)])) (by rw [wipe_nio (s := s9) rfl n9 (by simp [LW])]; rfl) (lim_ge (by have := List.length_filter_le (fun y => decide ((x, y) ∈ E) || decide ((y, x) ∈ E)) P; unfold lnbrs; omega))
        (fun y hy => ⟨LW P E a b (found ++ done.filter (atEnd b)) edge .fr (some (.lst (tW (level P E b done)), .ow)) (some (wy w, .fr)) (some (.str y, .fr)), rfl, by
          have h1 := in_S (neg := true) (k := false) (x := y) (l := w)
          have h2 := add_way (k := false) (k' := false) (y := y) p.ne (by have := p.len hE ha; omega)
          by_cases hy : y ∈ w <;> simp [turnM, LW, rget, h1, h2, hy, wipeR, wipe1R]⟩)
      have ho : onward P E w = ((lnbrs P E x).filter fun y => !decide (y ∈ w)).map fun y => w ++ [y] := by unfold onward; rw [p.lastOf]
      have hol := onward_len (E := E) (w := w) hP
      have c2 : compM (srcM (storeM [.val (varM 0), .val (primM [.pk 6, .val (conM (.int (-1)))] gIx)] g__law_beside)) (.nm 9) (primM [.pk 9, .pk 6] (gIn true)) (primM [.pk 6, .val (storeM [.val (varM 9)] gMkT)] gAdd) [9] (LW P E a b (found ++ done.filter (atEnd b)) edge .fr (some (.lst (tW (level P E b done)), .ow)) (some (wy w, .fr)) s9) = some ((.lst (tW (onward P E w)), true), LW P E a b (found ++ done.filter (atEnd b)) edge .fr (some (.lst (tW (level P E b done)), .ow)) (some (wy w, .fr)) none) := by
        rw [c1, ho]
        simp [tW]
      have hadd := add_ll (l := tW (level P E b done)) (m := tW (onward P E w)) (by simp only [tW, List.length_map, lim_val]; omega)
      refine ⟨(.nx, LW P E a b (found ++ (done ++ [w]).filter (atEnd b)) edge .fr (some (.lst (tW (level P E b (done ++ [w]))), .ow)) (some (wy w, .fr)) none), ?_, _, _, rfl, nio_fr, nio_none⟩
      have e1 : (done ++ [w]).filter (atEnd b) = done.filter (atEnd b) := by simp [List.filter_append, hb]
      have e2 : tW (level P E b (done ++ [w])) = tW (level P E b done) ++ tW (onward P E w) := by rw [level_snoc, hb]; simp [tW]
      rw [e1, e2]
      have hm : primM [.pk 5, .val (compM (srcM (storeM [.val (varM 0), .val (primM [.pk 6, .val (conM (.int (-1)))] gIx)] g__law_beside)) (.nm 9) (primM [.pk 9, .pk 6] (gIn true)) (primM [.pk 6, .val (storeM [.val (varM 9)] gMkT)] gAdd) [9])] gAdd (LW P E a b (found ++ done.filter (atEnd b)) edge .fr (some (.lst (tW (level P E b done)), .ow)) (some (wy w, .fr)) s9) = some ((.lst (tW (level P E b done) ++ tW (onward P E w)), true), LW P E a b (found ++ done.filter (atEnd b)) edge .fr (some (.lst (tW (level P E b done)), .ow)) (some (wy w, .fr)) none) := by
        simp only [primM, opsM]
        rw [c2]
        simp [LW, rget, hadd]
      simp only [cond_false]
      rw [asg_nio (s := some (.lst (tW (level P E b done)), .ow)) hm rfl (fun o h => by cases h; simp) (by simp [LW])]
      rfl
theorem fr_io : Own.fr ≠ Own.io := fun z => nomatch z
theorem ow_io : Own.ow ≠ Own.io := fun z => nomatch z
theorem alikeAll_S : ∀ {u v : List Str}, PySem.W.alikeAll (pdL (tS u)) (pdL (tS v)) = true
  | [], v => by simp [tS, pdL, PySem.W.alikeAll]
  | x :: u, [] => by simp [tS, pdL, PySem.W.alikeAll]
  | x :: u, y :: v => by
    have := alikeAll_S (u := u) (v := v)
    simp only [tS, List.map_cons] at this ⊢
    simp [pdL, pd, PySem.W.alikeAll, PySem.W.alike, this]
theorem alike_way {u v : List Str} : PySem.W.alike (pd (wy u)) (pd (wy v)) = true := by
  simp only [wy, pd, PySem.W.alike]
  exact alikeAll_S
theorem sort_W {ws : List (List Str)} (hn : ∀ w ∈ ws, w ≠ []) (hl : ws.length ≤ lim) : gSort [.lst (tW ws)] = some (.lst (tW (ws.mergeSort fun u v => tle (wy u) (wy v))), true) := by
  have h1 : srtOk (tW ws) = true := by
    unfold srtOk
    simp only [Bool.and_eq_true, Bool.or_eq_true]
    refine ⟨⟨dOkL_W, ?_⟩, .inl ?_⟩
    · simp only [List.all_eq_true, tW, List.mem_map]
      rintro _ ⟨u, _, rfl⟩ _ ⟨v, _, rfl⟩
      exact alike_way
    · simp only [List.all_eq_true, tW, List.mem_map]
      rintro _ ⟨u, hu, rfl⟩
      obtain ⟨x, u', rfl⟩ := List.exists_cons_of_ne_nil (hn u hu)
      rfl
  simp only [gSort]
  rw [if_pos ⟨h1, by simpa [tW] using hl⟩]
  congr 3
  exact (List.map_mergeSort (f := wy) (r := fun u v => tle (wy u) (wy v)) (s := tle) fun a _ b _ => rfl).symm
def LV (P : List Str) (E : List (Str × Str)) (a b : Str) (found ord : List (List Str)) (o3 o4 : Own) (s5 s6 s8 s9 : Option (T × Own)) : Rho :=
  [some (wL P E, .fr), some (.str a, .fr), some (.str b, .fr), some (.lst (tW found), o3), some (.lst [], o4), s5, s6, some (.lst (tW ord), .ow), s8, s9]
theorem src_var {ρ ρ' : Rho} {i : Nat} {l : List T} {o : Own} (h : rget ρ i = some (.lst l, o)) (ho : o ≠ .io) (e : ρ' = if o = .ow then ρ.set i (some (.lst l, .fr)) else ρ) : srcM (varM i) ρ = some (l, ρ') := by
  unfold srcM varM letgo
  rw [h]
  cases o with
  | io => exact absurd rfl ho
  | fr => rw [e]; simp
  | ow => rw [e]; simp
theorem law_order {P : List Str} {E : List (Str × Str)} {a b : Str} {found : List (List Str)} {o3 o4 : Own} {s5 s6 s9 : Option (T × Own)} (hP : P.length ≤ 6) (h3 : o3 ≠ .io) (hf : found.length ≤ 7 * 6 ^ 7) (hne : ∀ w ∈ found, w ≠ []) (hle : ∀ w ∈ found, w.length ≤ P.length) (n6 : Nio s6) {Q : Out × Rho → Prop}
    (q : ∀ ord o3 s6 s8, (∀ w, w ∈ ord ↔ w ∈ found) → ord.length ≤ 7 * found.length → Q (.nx, LV P E a b found ord o3 o4 s5 s6 s8 s9)) :
    Go (forLoop (.nm 8) (asgM 7 (primM [.pk 7, .val (primM [.val (compM (srcM (varM 3)) (.nm 6) (primM [.val (primM [.pk 6] gLen), .pk 8] gEq) (varM 6) [6])] gSort)] gAdd)) (intsT 0 (P.length + 1)) (LV P E a b found [] o3 o4 s5 s6 none s9)) Q := by
  unfold intsT
  refine go_loopM (F := fun i : Nat => T.int (0 + (i : Nat))) (J := fun done rest ρ => ∃ o3 s6 s8 ord, ρ = LV P E a b found ord o3 o4 s5 s6 s8 s9 ∧ o3 ≠ .io ∧ Nio s6 ∧ Nio s8 ∧ (∀ w, w ∈ ord ↔ w ∈ found ∧ w.length ∈ done) ∧ ord.length ≤ done.length * found.length) ?_ ?_ ⟨o3, s6, none, [], rfl, h3, n6, nio_none, by simp, by simp⟩
  · rintro ρ ⟨o3, s6, s8, ord, rfl, _, _, _, ho, hol⟩
    rw [List.length_range] at hol
    exact q ord o3 s6 s8 (fun w => (ho w).trans ⟨fun z => z.1, fun z => ⟨z, List.mem_range.mpr (Nat.lt_succ_of_le (hle w z))⟩⟩) (Nat.le_trans hol (Nat.mul_le_mul_right _ (by omega)))
  · rintro done i rest ρ hl ⟨o3, s6, s8, ord, rfl, h3, n6, n8, ho, hol⟩
    refine ⟨LV P E a b found ord o3 o4 s5 s6 (some (.int (0 + (i : Nat)), .fr)) s9, by simp only [tgM]; rw [setM_nio (s := s8) rfl n8 (by simp [LV])]; rfl, ?_⟩
    have c1 := comp_map (ρ := LV P E a b found ord o3 o4 s5 s6 (some (.int (0 + (i : Nat)), .fr)) s9) (ρ1 := LV P E a b found ord .fr o4 s5 s6 (some (.int (0 + (i : Nat)), .fr)) s9) (ρw := LV P E a b found ord .fr o4 s5 none (some (.int (0 + (i : Nat)), .fr)) s9)
      (src := srcM (varM 3)) (tg := .nm 6) (cnd := primM [.val (primM [.pk 6] gLen), .pk 8] gEq) (elt := varM 6) (vs := [6]) (F := wy) (G := wy) (l := found) (p := fun w => decide (w.length = i)) (src_var (o := o3) rfl h3 (by cases o3 <;> first | rfl | exact absurd rfl h3)) (by rw [wipe_nio (s := s6) rfl n6 (by simp [LV])]; rfl) (by simp only [lim_val]; omega)
      (fun w hw => ⟨LV P E a b found ord .fr o4 s5 (some (wy w, .fr)) (some (.int (0 + (i : Nat)), .fr)) s9, rfl, by
        have h1 : gLen [wy w] = some (.int w.length, false) := by simp [gLen, wy, tS]
        have h2 : gEq [.int w.length, .int (i : Nat)] = some (.bl (decide (w.length = i)), false) := by rw [eq_int]; congr 3; simp [Int.natCast_inj]
        by_cases hi : w.length = i <;> simp only [hi, decide_true, decide_false] at h2 <;> simp [turnM, LV, rget, h1, h2, hi, wipeR, wipe1R]⟩)
    have hfl := List.length_filter_le (fun w : List Str => decide (w.length = i)) found
    have hs := sort_W (ws := found.filter fun w => decide (w.length = i)) (fun w hw => hne w (List.mem_filter.mp hw).1) (by simp only [lim_val]; omega)
    have hdl : done.length ≤ 6 := by
      have := congrArg List.length hl
      simp only [List.length_range, List.length_append, List.length_cons] at this
      omega
    have hpm := List.mergeSort_perm (found.filter fun w => decide (w.length = i)) (fun u v => tle (wy u) (wy v))
    have h4 : done.length * found.length ≤ 6 * found.length := Nat.mul_le_mul_right _ hdl
    have hadd := add_ll (l := tW ord) (m := tW ((found.filter fun w => decide (w.length = i)).mergeSort fun u v => tle (wy u) (wy v))) (by simp only [tW, List.length_map, lim_val, hpm.length_eq]; omega)
    have hm : primM [.pk 7, .val (primM [.val (compM (srcM (varM 3)) (.nm 6) (primM [.val (primM [.pk 6] gLen), .pk 8] gEq) (varM 6) [6])] gSort)] gAdd (LV P E a b found ord o3 o4 s5 s6 (some (.int (0 + (i : Nat)), .fr)) s9) = some ((.lst (tW ord ++ tW ((found.filter fun w => decide (w.length = i)).mergeSort fun u v => tle (wy u) (wy v))), true), LV P E a b found ord .fr o4 s5 none (some (.int (0 + (i : Nat)), .fr)) s9) := by
      simp only [primM, opsM]
      rw [c1]
      simp only [tW] at hs hadd
      simp [LV, rget, hs, hadd]
    refine ⟨(.nx, LV P E a b found (ord ++ (found.filter fun w => decide (w.length = i)).mergeSort fun u v => tle (wy u) (wy v)) .fr o4 s5 none (some (.int (0 + (i : Nat)), .fr)) s9), ?_, .fr, none, _, _, rfl, fr_io, nio_none, nio_fr, fun w => ?_, ?_⟩
    · rw [asg_nio (s := some (.lst (tW ord), .ow)) hm rfl (fun o h => by cases h; simp) (by simp [LV])]
      simp [LV, tW]
    · rw [List.mem_append, ho, hpm.mem_iff, List.mem_filter, List.mem_append, List.mem_singleton, decide_eq_true_iff]
      constructor
      · rintro (⟨z1, z2⟩ | ⟨z1, z2⟩)
        · exact ⟨z1, .inl z2⟩
        · exact ⟨z1, .inr z2⟩
      · rintro ⟨z1, z2 | z2⟩
        · exact .inl ⟨z1, z2⟩
        · exact .inr ⟨z1, z2⟩
    · rw [List.length_append, hpm.length_eq, List.length_append, List.length_singleton, Nat.succ_mul]
      omega
theorem law_ways_eq {P : List Str} {E : List (Str × Str)} {a b : Str} (hP : P.length ≤ 6) (hE : EdgesIn E P) (ha : a ∈ P) :
    ∃ ord : List (List Str), g__law_ways [wL P E, .str a, .str b] = some (.lst (tW ord), true) ∧ (∀ w, w ∈ ord ↔ Path E a w b) ∧ ord.length ≤ 13716864 := by
  suffices h : Go (m__law_ways (start0 10 [wL P E, .str a, .str b])) fun x => ∃ ord : List (List Str), outR (some x) = some (.lst (tW ord), true) ∧ (∀ w, w ∈ ord ↔ Path E a w b) ∧ ord.length ≤ 13716864 by
    obtain ⟨x, e, ord, e2, q⟩ := h
    exact ⟨ord, fnG_of rfl ⟨x, e, e2⟩, q⟩
  unfold m__law_ways
  refine go_seq ⟨(.nx, LW P E a b [] [[a]] .ow none none none), by simp [parM, LW, tW, wy, tS, rget], ?_⟩
  refine go_seq ?_
  refine go_while (I := fun n ρ => ∃ k found edge o4 s5 s6 s9, ρ = LW P E a b found edge o4 s5 s6 s9 ∧ o4 ≠ .io ∧ Nio s5 ∧ Nio s6 ∧ Nio s9 ∧ LI P E a b k found edge ∧ k + n = P.length + 1) ?_ 1000000 (P.length + 1) _ (by omega) ⟨0, [], [[a]], .ow, none, none, none, rfl, ow_io, nio_none, nio_none, nio_none, LI.start, by omega⟩
  rintro n ρ ⟨k, found, edge, o4, s5, s6, s9, rfl, h4, n5, n6, n9, hi, hk⟩
  refine ⟨!decide (edge = []), LW P E a b found edge o4 s5 s6 s9, by simp [LW, rget, ne_nilW], fun hb => ?_, fun hb => ?_⟩
  · have he : edge = [] := by simpa using hb
    subst he
    refine go_seq ⟨(.nx, LV P E a b found [] .ow o4 s5 s6 none s9), by simp [LW, LV, rget, tW], ?_⟩
    refine go_seq (go_for (ts := intsT 0 (P.length + 1)) (ρ1 := LV P E a b found [] .ow o4 s5 s6 none s9) ?_ ?_)
    · have hlen : gLen [wP P] = some (.int P.length, false) := by rw [len_seq (.inr ⟨_, rfl⟩)]; simp [tS]
      have hr : r62 ((P.length : Int) + 1) = true := by unfold r62; simp only [Bool.and_eq_true, decide_eq_true_eq]; omega
      have hadd : gAdd [.int P.length, .int 1] = some (.int (P.length + 1), false) := rfl
      unfold rng1M
      simp [LV, rget, wL0, hlen, hadd, hr]
    · have b3 := hi.smallF
      have b4 : k * 6 ^ 7 ≤ 7 * 6 ^ 7 := Nat.mul_le_mul_right _ (by omega)
      refine law_order hP ow_io (Nat.le_trans b3 b4) (fun w hw => (hi.found1 w hw).ne) (fun w hw => (hi.found1 w hw).len hE ha) n6 fun ord o3 s6 s8 ho hol => ?_
      refine ⟨(.rt (.lst (tW ord), true), _), by simp [retVM, LV, rget]; rfl, ord, rfl, fun w => (ho w).trans (hi.end w), by omega⟩
  · have he : edge ≠ [] := by simpa using hb
    have hlt := hi.lt hE ha he
    refine go_seq ⟨(.nx, LW P E a b found edge o4 (some (.lst [], .ow)) s6 s9), by rw [asg_nio (s := s5) (t := .lst []) (b := true) (ρ1 := LW P E a b found edge o4 s5 s6 s9) (by simp) rfl n5 (by simp [LW])]; rfl, ?_⟩
    refine go_seq (go_for (ts := edge.map wy) (ρ1 := LW P E a b found edge .fr (some (.lst [], .ow)) s6 s9) (src_var (o := o4) rfl h4 (by cases o4 <;> first | rfl | exact absurd rfl h4)) ?_)
    refine law_level (s5 := none) hP hE ha hi (by omega) n6 n9 fun s6 s9 n6 n9 => ?_
    refine ⟨(.nx, LW P E a b (found ++ edge.filter (atEnd b)) (level P E b edge) .fr (some (.lst (tW (level P E b edge)), .fr)) s6 s9), by simp [LW, rget], ?_⟩
    exact ⟨n - 1, by omega, k + 1, _, _, _, _, _, _, rfl, fr_io, nio_fr, n6, n9, hi.next hE hP (by omega), by omega⟩
end Rv
end

section
set_option Elab.async false
set_option autoImplicit false
set_option linter.all false
set_option maxRecDepth 100000
set_option maxHeartbeats 200000
namespace Rv
open PySem PySem.Spec L2 LamX NdefX
open PyProof.Rows hiding St
/-! ### the law's cut places -/
theorem eq_nilW {l : List (List Str)} : gEq [.lst (tW l), .lst []] = some (.bl (decide (l = [])), false) := by
  simp only [gEq]
  rw [if_pos ⟨by show dOkL 11 (tW l) = true; exact dOkL_W, rfl⟩]
  simp only [teq]
  rw [teqL_nil]
  cases l <;> simp
theorem tup_S {l : List T} (h : l.length ≤ lim) : gTupOf [.lst l] = some (.tup true l, false) := if_pos h
open Classical in
noncomputable def farB (E : List (Str × Str)) (a b : Str) : Bool := !decide (Reach E a b)
open Classical in
theorem farB_iff {E : List (Str × Str)} {a b : Str} : farB E a b = true ↔ ¬ Reach E a b := by
  unfold farB
  simp
theorem slL1 {l : List T} (h : l ≠ []) : gSlL [.tup true l, .int 1] = some (.tup false (l.drop 1), false) := by
  obtain ⟨a, m, rfl⟩ := List.exists_cons_of_ne_nil h
  have h1 : HT.sIx (a :: m).length 0 (some 1) = 1 := by simp [HT.sIx]
  have h2 : HT.sIx (a :: m).length (a :: m).length none = (a :: m).length := by simp [HT.sIx]
  simp only [gSlL, gCut, whole, cutG, h1, h2]
  simp
theorem far_cut {P : List Str} {E : List (Str × Str)} {r0 : Str} {R : List Str} (h : P = r0 :: R) : (!decide (R.filter (farB E r0) = [])) = !hangB P E := by
  subst h
  congr 1
  rw [Bool.eq_iff_iff, decide_eq_true_iff, hang_iff, List.filter_eq_nil_iff]
  constructor
  · intro k
    have key : ∀ y ∈ r0 :: R, Reach E r0 y := by
      intro y hy
      rcases List.mem_cons.mp hy with rfl | hy
      · exact .refl
      · have := k y hy
        rw [farB_iff] at this
        exact Classical.not_not.mp this
    exact (all_iff rfl).mp key
  · intro k y hy
    rw [farB_iff]
    exact fun z => z (k r0 List.mem_cons_self y (List.mem_cons_of_mem _ hy))
def CU (P : List Str) (E : List (Str × Str)) (found : List Str) (s2 s3 s4 s5 : Option (T × Own)) : Rho := [some (wL P E, .fr), some (.lst (tS found), .ow), s2, s3, s4, s5]
theorem cuts_all {P : List Str} {E : List (Str × Str)} (hP2 : 2 ≤ P.length) (hPn : P.Nodup) : cutsP P E = P.filter (cutB P E) := by
  unfold cutsP
  split
  · rfl
  · rename_i h
    symm
    rw [List.filter_eq_nil_iff]
    intro x hx
    have hol := others_len hPn hx
    have h1 : (others P x).length = 1 := by omega
    obtain ⟨z, hz⟩ := List.length_eq_one_iff.mp h1
    have : hangB (others P x) (apart E x) = true := by
      rw [hang_iff, hz]
      intro a ha b hb
      rw [List.mem_singleton.mp ha, List.mem_singleton.mp hb]
      exact .refl
    simp [cutB, this]
end Rv
end

section
set_option Elab.async false
set_option autoImplicit false
set_option linter.all false
set_option maxRecDepth 100000
set_option maxHeartbeats 200000
namespace Rv
open PySem PySem.Spec L2 LamX NdefX
open PyProof.Rows hiding St
theorem cutsP_len {P : List Str} {E : List (Str × Str)} : (cutsP P E).length ≤ P.length := by
  unfold cutsP
  split
  · exact List.length_filter_le _ _
  · simp
theorem ne_int {i j : Int} : gNe [.int i, .int j] = some (.bl (!decide (i = j)), false) := by
  simp only [gNe, dOk, teq]
  simp [BEq.beq]
theorem same_str {x : Str} (d : Nat) : g__law_same (d + 1) [.str x, .str x] = some (.bl true, false) := by
  refine fnG_of rfl ?_
  unfold m__law_same
  refine go_seq ⟨(.nx, [some (.str x, .fr), some (.str x, .fr), none]), by simp [ifM, rget, gIsi, isiT, tyN, tys], ?_⟩
  refine go_seq ⟨(.nx, [some (.str x, .fr), some (.str x, .fr), none]), by simp [ifM, rget, gIsN, isNon], ?_⟩
  refine go_seq ⟨(.nx, [some (.str x, .fr), some (.str x, .fr), none]), by simp [ifM, rget, gIsi, isiT, tyN, tys], ?_⟩
  refine go_seq ⟨(.nx, [some (.str x, .fr), some (.str x, .fr), none]), by simp [ifM, rget, gIsi, isiT, tyN, tys], ?_⟩
  refine go_seq ⟨(.rt (.bl true, false), [some (.str x, .fr), some (.str x, .fr), none]), by simp [ifM, rget, gIsi, isiT, tyN, tys, eq_str], ?_⟩
  rfl
theorem blL_true {α : Type} : ∀ {l : List α}, blL (l.map fun _ => T.bl true) = some (l.map fun _ => true)
  | [] => rfl
  | x :: l => by
    simp only [List.map_cons, blL]
    rw [blL_true]
    rfl
theorem ix_at {k : Bool} {l : List T} {i : Nat} {t : T} (h : l[i]? = some t) : gIx [.tup k l, .int (i : Nat)] = some (t, false) := by
  have hi : i < l.length := (List.getElem?_eq_some_iff.mp h).1
  have h1 : ixN l.length (i : Nat) = some i := by
    simp only [ixN]
    rw [if_pos (by omega), if_pos (by omega)]
    simp
  simp only [gIx, atI, h1]
  simp [h]
/-- alike, place by place -/
theorem same_comp {d : Nat} {k : Bool} {l : List T} (hl : l.length ≤ 1000) (h : ∀ t ∈ l, g__law_same d [t, t] = some (.bl true, false)) :
    compM (rng1M (.val (primM [.pk 1] gLen))) (.nm 2) yesM (storeM [.val (primM [.pk 0, .pk 2] gIx), .val (primM [.pk 1, .pk 2] gIx)] (g__law_same d)) [2] [some (.tup k l, .fr), some (.tup k l, .fr), none] = some ((.lst ((List.range l.length).map fun _ => T.bl true), true), [some (.tup k l, .fr), some (.tup k l, .fr), none]) := by
  have hr : r62 (l.length : Int) = true := by unfold r62; simp only [Bool.and_eq_true, decide_eq_true_eq]; omega
  have hs : rng1M (.val (primM [.pk 1] gLen)) [some (.tup k l, .fr), some (.tup k l, .fr), none] = some ((List.range l.length).map (fun i : Nat => T.int (0 + (i : Nat))), [some (.tup k l, .fr), some (.tup k l, .fr), none]) := by
    unfold rng1M
    simp [rget, gLen, hr, intsT]
  refine comp_all hs (ρw := [some (.tup k l, .fr), some (.tup k l, .fr), none]) rfl (lim_ge (by rw [List.length_range]; omega)) fun i hi => ⟨[some (.tup k l, .fr), some (.tup k l, .fr), some (.int (0 + (i : Nat)), .fr)], rfl, ?_⟩
  have hi' := List.mem_range.mp hi
  have h1 := ix_at (k := k) (List.getElem?_eq_getElem hi')
  have h2 := h _ (List.getElem_mem hi')
  have e0 : (0 + (i : Int)) = i := Int.zero_add _
  rw [e0]
  simp [turnM, rget, h1, h2, wipeR, wipe1R]
theorem prim1 {f : M} {g : List T → Option Res} {ρ ρ1 : Rho} {r s : Res} (h : f ρ = some (r, ρ1)) (h2 : g [r.1] = some s) : primM [.val f] g ρ = some (s, ρ1) := by
  simp only [primM, opsM, h, resolves, resolve, h2]
theorem all_true {n : Nat} : gAll [.lst ((List.range n).map fun _ => T.bl true)] = some (.bl true, false) := by
  simp only [gAll]
  rw [blL_true]
  simp
theorem same_tup {d : Nat} {k : Bool} {l : List T} (hl : l.length ≤ 1000) (h : ∀ t ∈ l, g__law_same d [t, t] = some (.bl true, false)) : g__law_same (d + 1) [.tup k l, .tup k l] = some (.bl true, false) := by
  rw [g__law_same]
  refine fnG_of rfl ?_
  unfold m__law_same
  have c1 := same_comp (k := k) hl h
  have e1 : primM [.pk 1] (gIsi "tuple") (start0 3 [.tup k l, .tup k l]) = some ((.bl true, false), [some (.tup k l, .fr), some (.tup k l, .fr), none]) := by simp [rget, gIsi, isiT, tyN, tys]
  have e2 : ifM (orM (notM (primM [.pk 0] (gIsi "tuple"))) (primM [.val (primM [.pk 0] gLen), .val (primM [.pk 1] gLen)] gNe)) (retM (conM (.bl false))) (nopM) [some (.tup k l, .fr), some (.tup k l, .fr), none] = some (.nx, [some (.tup k l, .fr), some (.tup k l, .fr), none]) := by simp [ifM, rget, gIsi, isiT, tyN, tys, gLen, ne_int]
  have e3 := prim1 c1 all_true
  refine go_seq (go_if e1 (go_seq (go_of e2 (go_ret (go_of e3 ?_)))))
  rfl
theorem same_cuts {l : List Str} (hl : l.length ≤ 100) : g__law_same 4 [.tup false [.tup true (tS l), .tup true (tS l)], .tup false [.tup true (tS l), .tup true (tS l)]] = some (.bl true, false) := by
  have h1 : g__law_same 3 [.tup true (tS l), .tup true (tS l)] = some (.bl true, false) := same_tup (by simp only [tS, List.length_map]; omega) fun t ht => by
    obtain ⟨x, _, rfl⟩ := List.mem_map.mp ht
    exact same_str 1
  exact same_tup (by simp) fun t ht => by
    simp only [List.mem_cons, List.not_mem_nil, or_false, or_self] at ht
    rw [ht]
    exact h1
/-! ### the bowl -/
abbrev bw (a b c : Int) : T := .lst [.int a, .int b, .int c]
theorem fnI_of {n np : Nat} {m : SM} {t : T} {ts : List T} {r : Res × T} (h : ts.length + 1 = np) (g : Go (m (startI n t ts)) fun x => outI (some x) = some r) : fnI n np m t ts = some r := by
  unfold fnI
  rw [if_pos h]
  obtain ⟨x, e, q⟩ := g
  rw [e]
  exact q
theorem mul_r {i j : Int} (h1 : -(2 ^ 64) < j) (h2 : j < 2 ^ 64) : gMul2 [.int i, .int j] = some (.int (i * j), false) := by
  simp only [gMul2, gII]
  rw [if_pos (by unfold cMul; rw [decide_eq_true h1, decide_eq_true h2]; simp)]
theorem mul_l {i j : Int} (h1 : -(2 ^ 64) < i) (h2 : i < 2 ^ 64) : gMul2 [.int i, .int j] = some (.int (i * j), false) := by
  simp only [gMul2, gII]
  rw [if_pos (by unfold cMul; rw [decide_eq_true h1, decide_eq_true h2]; simp)]
theorem mod_p {i j : Int} (h : 0 < j) : gMod2 [.int i, .int j] = some (.int (i % j), false) := by
  simp only [gMod2, gII]
  rw [if_pos (by rw [decide_eq_true h])]
theorem div_p {i j : Int} (h : 0 < j) (h2 : j < 1073741824) : gDiv2 [.int i, .int j] = some (.int (i / j), false) := by
  simp only [gDiv2, gII]
  rw [if_pos (by unfold cDiv; rw [decide_eq_true h, decide_eq_true h2]; rfl)]
theorem add_i {i j : Int} : gAdd [.int i, .int j] = some (.int (i + j), false) := rfl
theorem bw0 {a b c : Int} : gIx [bw a b c, .int 0] = some (.int a, false) := by simp [gIx, atI, ixN]
theorem bw1 {a b c : Int} : gIx [bw a b c, .int 1] = some (.int b, false) := by simp [gIx, atI, ixN]
theorem bw2 {a b c : Int} : gIx [bw a b c, .int 2] = some (.int c, false) := by simp [gIx, atI, ixN]
theorem set_b2 {a b c v : Int} : gSetL (bw a b c) [(.int v, false), (.int 2, false)] = some (bw a b v, .non) := by simp [gSetL, ixN]
theorem set_b1 {a b c v : Int} : gSetL (bw a b c) [(.int v, false), (.int 1, false)] = some (bw a v c, .non) := by simp [gSetL, ixN]
theorem draw_eq (a b c : Int) {many : Int} (h0 : 0 < many) (h1 : many < 1073741824) : ∃ r a' b' c' : Int, 0 ≤ r ∧ r < many ∧ g__law_draw (bw a b c) [.int many] = some ((.int r, false), bw a' b' c') := by
  by_cases ha : 0 < a
  · refine ⟨a % many, a / many, b, c, Int.emod_nonneg _ (by omega), Int.emod_lt_of_pos _ h0, fnI_of rfl ?_⟩
    have hd : gDivmod [.int a, .int many] = some (.tup false [.int (a / many), .int (a % many)], false) := by
      simp only [gDivmod]
      rw [if_pos (by unfold cDiv; rw [decide_eq_true h0, decide_eq_true h1]; rfl)]
    unfold m__law_draw
    refine go_seq ⟨(.rt (.int (a % many), false), [some (bw (a / many) b c, .io), some (.int many, .fr), some (.int (a % many), .fr), none]), ?_, rfl⟩
    rw [if_t (ρ1 := [some (bw a b c, .io), some (.int many, .fr), none, none]) (by simp [startI, rget, bw0, gt_int, ha])]
    simp [seqM, asgSN, rget, bw0, hd, ownM, ixN, retVM]
  · obtain ⟨t, ht⟩ : ∃ t : Int, t = (b * 39373 + 17011 * (c + 1)) % 2147483563 := ⟨_, rfl⟩
    obtain ⟨u, hu⟩ : ∃ u : Int, u = (t * (t % 4093 + 30011) + 7 * (c + 1)) % 2147483563 := ⟨_, rfl⟩
    refine ⟨u / 733 % many, a, u, c + 1, Int.emod_nonneg _ (by omega), Int.emod_lt_of_pos _ h0, fnI_of rfl ?_⟩
    have hm := Int.emod_nonneg t (b := 4093) (by omega)
    have hm2 := Int.emod_lt_of_pos t (b := 4093) (by omega)
    have e1 : gMul2 [.int b, .int 39373] = some (.int (b * 39373), false) := mul_r (by omega) (by omega)
    have e2 : gMul2 [.int 17011, .int (c + 1)] = some (.int (17011 * (c + 1)), false) := mul_l (by omega) (by omega)
    have e3 : gMod2 [.int (b * 39373 + 17011 * (c + 1)), .int 2147483563] = some (.int t, false) := by rw [mod_p (by omega), ht]
    have e4 : gMod2 [.int t, .int 4093] = some (.int (t % 4093), false) := mod_p (by omega)
    have e5 : gMul2 [.int t, .int (t % 4093 + 30011)] = some (.int (t * (t % 4093 + 30011)), false) := mul_r (by omega) (by omega)
    have e6 : gMul2 [.int 7, .int (c + 1)] = some (.int (7 * (c + 1)), false) := mul_l (by omega) (by omega)
    have e7 : gMod2 [.int (t * (t % 4093 + 30011) + 7 * (c + 1)), .int 2147483563] = some (.int u, false) := by rw [mod_p (by omega), hu]
    have e8 : gDiv2 [.int u, .int 733] = some (.int (u / 733), false) := div_p (by omega) (by omega)
    have e9 : gMod2 [.int (u / 733), .int many] = some (.int (u / 733 % many), false) := mod_p h0
    unfold m__law_draw
    refine go_seq ⟨(.nx, [some (bw a b c, .io), some (.int many, .fr), none, none]), ?_, ?_⟩
    · rw [if_f (ρ1 := [some (bw a b c, .io), some (.int many, .fr), none, none]) (by simp [startI, rget, bw0, gt_int]; omega)]
      rfl
    refine go_seq ⟨(.nx, [some (bw a b (c + 1), .io), some (.int many, .fr), none, none]), by simp [rget, mutM, ownM, bw2, add_i, valsR, set_b2], ?_⟩
    refine go_seq ⟨(.nx, [some (bw a b (c + 1), .io), some (.int many, .fr), none, some (.int t, .fr)]), by simp [rget, bw1, bw2, add_i, gInt, e1, e2, e3], ?_⟩
    refine go_seq ⟨(.nx, [some (bw a u (c + 1), .io), some (.int many, .fr), none, some (.int t, .fr)]), by simp [rget, mutM, ownM, bw2, add_i, gInt, valsR, set_b1, e4, e5, e6, e7], ?_⟩
    simp [rget, bw1, gInt, e8, e9, outI]
end Rv
end

section
set_option Elab.async false
set_option autoImplicit false
set_option linter.all false
set_option maxRecDepth 100000
set_option maxHeartbeats 200000
namespace Rv
open PySem PySem.Spec L2 LamX NdefX
open PyProof.Rows hiding St
theorem ge_int {i j : Int} : gGe [.int i, .int j] = some (.bl (!decide (i < j)), false) := by
  simp [gGe, gCmp, dOk, pd, PySem.W.alike, PySem.W.dataLt_int, isNon]
theorem cutG_map {α β : Type} {f : α → β} {l : List α} {lo hi : Option Int} : cutG (l.map f) lo hi = (cutG l lo hi).map f := by
  simp [cutG, List.map_take, List.map_drop]
theorem pow16 : gPow2 [.int 10, .int 16] = some (.int (10 ^ 16), false) := by
  simp only [gPow2, gII]
  rw [if_pos (by decide)]
  rfl
theorem bowl_eq (ns : List Int) (lap : Nat) : ∃ a b c : Int, g__law_bowl [.frl (ns.map T.int), .int (lap : Nat)] = some (bw a b c, true) := by
  suffices h : Go (m__law_bowl (start0 5 [.frl (ns.map T.int), .int (lap : Nat)])) fun x => ∃ a b c : Int, outR (some x) = some (bw a b c, true) by
    obtain ⟨x, e, a, b, c, q⟩ := h
    exact ⟨a, b, c, fnG_of rfl ⟨x, e, q⟩⟩
  unfold m__law_bowl
  have e0 : gMul2 [.int 8819, .int (lap : Nat)] = some (.int (8819 * (lap : Nat)), false) := mul_l (by omega) (by omega)
  refine go_seq ⟨(.nx, [some (.frl (ns.map T.int), .fr), some (.int (lap : Nat), .fr), some (.int (771041 + 8819 * (lap : Nat)), .fr), none, none]), by simp [rget, e0, add_i], ?_⟩
  have hs : srcM (primM [.pk 0, .val (conM (.int 9))] gSlH) [some (.frl (ns.map T.int), .fr), some (.int (lap : Nat), .fr), some (.int (771041 + 8819 * (lap : Nat)), .fr), none, none] = some ((cutG ns none (some 9)).map T.int, [some (.frl (ns.map T.int), .fr), some (.int (lap : Nat), .fr), some (.int (771041 + 8819 * (lap : Nat)), .fr), none, none]) :=
    src_ll (b := true) (by simp [rget, gSlH, gCut, cutG_map])
  refine go_seq (go_for hs (go_loopM (J := fun done rest ρ => ∃ (s : Int) (s3 : Option (T × Own)), ρ = [some (.frl (ns.map T.int), .fr), some (.int (lap : Nat), .fr), some (.int s, .fr), s3, none] ∧ Nio s3) ?_ ?_ ⟨_, none, rfl, nio_none⟩))
  · rintro ρ ⟨s, s3, rfl, n3⟩
    obtain ⟨own, ho⟩ : ∃ own : Int, iteM (primM [.pk 1, .val (primM [.pk 0] gLen)] gLt) (primM [.val (primM [.pk 0, .pk 1] gIx)] gInt) (conM (.int 0)) [some (.frl (ns.map T.int), .fr), some (.int (lap : Nat), .fr), some (.int s, .fr), s3, none] = some ((.int own, false), [some (.frl (ns.map T.int), .fr), some (.int (lap : Nat), .fr), some (.int s, .fr), s3, none]) := by
      by_cases hl : lap < ns.length
      · have h1 : gIx [.frl (ns.map T.int), .int (lap : Nat)] = some (.int ns[lap], false) := by
          have h1 : ixN (ns.map T.int).length (lap : Nat) = some lap := by
            simp only [ixN, List.length_map]
            rw [if_pos (by omega), if_pos (by omega)]
            simp
          simp only [gIx, atI, h1]
          simp [hl]
        refine ⟨ns[lap], ?_⟩
        simp [rget, gLen, gLtI, hl, h1, gInt]
      · exact ⟨0, by simp [rget, gLen, gLtI, hl]⟩
    refine go_seq ⟨(.nx, [some (.frl (ns.map T.int), .fr), some (.int (lap : Nat), .fr), some (.int s, .fr), s3, some (.int own, .fr)]), by rw [asg_nio (s := none) ho rfl nio_none (by simp)]; rfl, ?_⟩
    have e1 : gMul2 [.int s, .int 53] = some (.int (s * 53), false) := mul_r (by omega) (by omega)
    have e2 : gMod2 [.int own, .int 2147483053] = some (.int (own % 2147483053), false) := mod_p (by omega)
    have e3 : gMul2 [.int (own % 2147483053), .int 27011] = some (.int (own % 2147483053 * 27011), false) := mul_r (by omega) (by omega)
    have e4 : gMod2 [.int (s * 53 + own % 2147483053 * 27011 + 11), .int 2147483563] = some (.int ((s * 53 + own % 2147483053 * 27011 + 11) % 2147483563), false) := mod_p (by omega)
    refine go_seq ⟨(.nx, [some (.frl (ns.map T.int), .fr), some (.int (lap : Nat), .fr), some (.int ((s * 53 + own % 2147483053 * 27011 + 11) % 2147483563), .fr), s3, some (.int own, .fr)]), by simp [rget, e1, e2, e3, e4, add_i, gInt], ?_⟩
    obtain ⟨t, ht⟩ : ∃ t : Int, iteM (orM (primM [.pk 4, .val (conM (.int 0))] gLt) (primM [.pk 4, .val (primM [.val (conM (.int 10)), .val (conM (.int 16))] gPow2)] gGe)) (primM [.pk 4] gAbs) (conM (.int 0)) [some (.frl (ns.map T.int), .fr), some (.int (lap : Nat), .fr), some (.int ((s * 53 + own % 2147483053 * 27011 + 11) % 2147483563), .fr), s3, some (.int own, .fr)] = some ((.int t, false), [some (.frl (ns.map T.int), .fr), some (.int (lap : Nat), .fr), some (.int ((s * 53 + own % 2147483053 * 27011 + 11) % 2147483563), .fr), s3, some (.int own, .fr)]) := by
      by_cases h1 : own < 0
      · exact ⟨_, by simp [rget, gLtI, h1, gAbs]; rfl⟩
      · by_cases h2 : own < 10 ^ 16
        · exact ⟨0, by have := ge_int (i := own) (j := 10 ^ 16); rw [decide_eq_true h2] at this; simp only [iteM, orM, primM, opsM, rget, List.getD_cons_succ, List.getD_cons_zero, conM, resolves, resolve, Option.map_some, gLtI, h1, pow16, this, decide_false, Bool.not_true]⟩
        · exact ⟨_, by have := ge_int (i := own) (j := 10 ^ 16); rw [decide_eq_false h2] at this; simp only [iteM, orM, primM, opsM, rget, List.getD_cons_succ, List.getD_cons_zero, conM, resolves, resolve, Option.map_some, gLtI, h1, pow16, this, decide_false, Bool.not_false, gAbs]; rfl⟩
    refine go_ret ⟨((bw t ((s * 53 + own % 2147483053 * 27011 + 11) % 2147483563) 0, true), [some (.frl (ns.map T.int), .fr), some (.int (lap : Nat), .fr), some (.int ((s * 53 + own % 2147483053 * 27011 + 11) % 2147483563), .fr), s3, some (.int own, .fr)]), ?_, _, _, _, rfl⟩
    simp only [storeM, opsM, ht]
    simp [rget]
  · rintro done c rest ρ hl ⟨s, s3, rfl, n3⟩
    refine ⟨[some (.frl (ns.map T.int), .fr), some (.int (lap : Nat), .fr), some (.int s, .fr), some (.int c, .fr), none], by simp only [tgM]; rw [setM_nio (s := s3) rfl n3 (by simp)]; rfl, ?_⟩
    have e1 : gMul2 [.int s, .int 48611] = some (.int (s * 48611), false) := mul_r (by omega) (by omega)
    have e2 : gMod2 [.int c, .int 2147483053] = some (.int (c % 2147483053), false) := mod_p (by omega)
    have e3 : gMul2 [.int (c % 2147483053), .int 19] = some (.int (c % 2147483053 * 19), false) := mul_r (by omega) (by omega)
    have e4 : gMod2 [.int (s * 48611 + c % 2147483053 * 19 + 41), .int 2147483563] = some (.int ((s * 48611 + c % 2147483053 * 19 + 41) % 2147483563), false) := mod_p (by omega)
    exact ⟨(.nx, [some (.frl (ns.map T.int), .fr), some (.int (lap : Nat), .fr), some (.int ((s * 48611 + c % 2147483053 * 19 + 41) % 2147483563), .fr), some (.int c, .fr), none]), by simp [rget, e1, e2, e3, e4, add_i, gInt], _, _, rfl, nio_fr⟩
/-- one of some -/
theorem of_eq (a b c : Int) {k : Bool} {l : List T} (h0 : l ≠ []) (hl : l.length ≤ 1000) : ∃ t ∈ l, ∃ a' b' c' : Int, g__law_of (bw a b c) [.tup k l] = some ((t, false), bw a' b' c') := by
  have hp : 0 < l.length := List.length_pos_iff.mpr h0
  obtain ⟨r, a', b', c', h1, h2, e⟩ := draw_eq a b c (many := l.length) (by omega) (by omega)
  have hr : r.toNat < l.length := by omega
  have hx := ix_at (k := k) (List.getElem?_eq_getElem hr)
  have er : ((r.toNat : Nat) : Int) = r := Int.toNat_of_nonneg h1
  rw [er] at hx
  refine ⟨l[r.toNat], List.getElem_mem hr, a', b', c', fnI_of rfl ?_⟩
  unfold m__law_of
  simp [startI, rget, callIM, gLen, ownM, e, hx, outI]
end Rv
end

section
set_option Elab.async false
set_option autoImplicit false
set_option linter.all false
set_option maxRecDepth 100000
set_option maxHeartbeats 200000
namespace Rv
open PySem PySem.Spec L2 LamX NdefX
open PyProof.Rows hiding St
/-! ### names, ties, the web that is made -/
def abc : Str := "abcdefghijklmnopqrstuvwxyz"
structure Nm (x : Str) : Prop where
  ne : x ≠ ""
  ls : ∀ c ∈ x.cps.toList, c ∈ abc.cps.toList
  len : x.length ≤ 8
  free : x ∉ words32
abbrev sl (x y : Str) : Prop := x.cps.toList < y.cps.toList
theorem lt_str {x y : Str} : gLt [.str x, .str y] = some (.bl (decide (sl x y)), false) := by
  simp [gLt, gCmp, dOk, pd, PySem.W.alike, PySem.W.dataLt_str, isNon]
theorem le_int {i j : Int} : gLe [.int i, .int j] = some (.bl (!decide (j < i)), false) := by
  simp [gLe, gCmp, dOk, pd, PySem.W.alike, PySem.W.dataLt_int, isNon]
theorem all_trueM {α : Type} {l : List α} : gAll [.lst (l.map fun _ => T.bl true)] = some (.bl true, false) := by
  simp only [gAll]
  rw [blL_true]
  simp
theorem is_word_eq {x : Str} (h : Nm x) : g_is_word [.str x] = some (.bl true, false) := by
  refine fnG_of rfl ?_
  unfold m_is_word
  have hl : x.cps.toList.length ≤ lim := by have := h.len; simp only [lim_val]; have e : x.cps.toList.length = x.length := rfl; omega
  have c1 := comp_all (ρ := [some (.str x, .fr), none]) (ρ1 := [some (.str x, .fr), none]) (ρw := [some (.str x, .fr), none]) (src := strM (varM 0)) (tg := .nm 1) (cnd := yesM) (elt := primM [.pk 1, .val (conM (.str "abcdefghijklmnopqrstuvwxyz"))] (gInS false)) (vs := [1])
    (F := fun c : Nat => T.str ⟨#[c]⟩) (G := fun _ => T.bl true) (l := x.cps.toList) (by simp [strM, rget, signsT]) rfl hl
    (fun c hc => ⟨[some (.str x, .fr), some (.str ⟨#[c]⟩, .fr)], rfl, by
      have h1 : gInS false [.str ⟨#[c]⟩, .str "abcdefghijklmnopqrstuvwxyz"] = some (.bl true, false) := by
        have := h.ls c hc
        simp only [gInS]
        show some (T.bl (false ^^ decide (c ∈ abc.cps.toList)), false) = _
        rw [decide_eq_true this]
        rfl
      simp [turnM, rget, h1, wipeR, wipe1R]⟩)
  have e3 := prim1 (g := gAll) c1 all_trueM
  have e2 : primM [.pk 0, .val (conM (.str ""))] gNe [some (.str x, .fr), none] = some ((.bl true, false), [some (.str x, .fr), none]) := by simp [rget, ne_str, h.ne]
  have e1 : primM [.pk 0] (gIsi "str") [some (.str x, .fr), none] = some ((.bl true, false), [some (.str x, .fr), none]) := by simp [rget, gIsi, isiT, tyN, tys]
  refine go_ret (go_of (x := ((.bl true, false), [some (.str x, .fr), none])) ?_ rfl)
  show andM _ _ [some (.str x, .fr), none] = _
  simp only [andM, e1, e2]
  exact e3
theorem is_name_eq {x : Str} (h : Nm x) : g_is_name [.str x] = some (.bl true, false) := by
  refine fnG_of rfl ?_
  unfold m_is_name
  have h1 := is_word_eq h
  have h2 : gLe [.int x.length, .int 8] = some (.bl true, false) := by
    rw [le_int]
    have := h.len
    rw [decide_eq_false (by omega)]
    rfl
  have h3 : gIn true [.str x, .tup true (words32.map T.str)] = some (.bl true, false) := by
    have := in_S (neg := true) (k := true) (x := x) (l := words32)
    rw [decide_eq_false h.free] at this
    exact this
  have h4 : gLen [.str x] = some (.int x.length, false) := rfl
  refine go_ret (go_of (x := ((.bl true, false), [some (.str x, .fr)])) ?_ rfl)
  show andM _ _ [some (.str x, .fr)] = _
  simp only [andM, storeM, primM, opsM, varM, letgo, conM, rget, List.getD_cons_zero, vals, h1, resolves, resolve, Option.map_some, h4, h2, h3]
theorem below_eq {l : List Str} {x : Str} (h : ∀ y ∈ l, sl y x) : g_are_below [.tup false (tS l), .str x] = some (.bl true, false) := by
  refine fnG_of rfl ?_
  unfold m_are_below
  have h1 : gEq [.tup false (tS l), .tup false []] = some (.bl (decide (l = [])), false) := by
    simp only [gEq]
    rw [if_pos ⟨by show dOkL 11 (tS l) = true; exact dOkL_S, rfl⟩]
    simp only [teq]
    rw [teqL_nil]
    cases l <;> simp
  by_cases hl : l = []
  · rw [decide_eq_true hl] at h1
    simp [rget, h1, outR]
  · rw [decide_eq_false hl] at h1
    have h2 := ix_last (k := false) hl
    have h3 : lastOf l ∈ l := by
      unfold lastOf
      rw [List.getLast?_eq_getLast hl]
      exact List.getLast_mem hl
    have h4 := lt_str (x := lastOf l) (y := x)
    rw [decide_eq_true (h _ h3)] at h4
    simp [rget, h1, h2, h4, outR]
theorem take_before {P done rest : List Str} {x : Str} (hl : P = done ++ x :: rest) (hs : P.Pairwise sl) : ∀ y ∈ done, sl y x := by
  intro y hy
  rw [hl, List.pairwise_append] at hs
  exact hs.2.2 y hy x List.mem_cons_self
theorem wrong_places_eq {P : List Str} (h2 : 2 ≤ P.length) (h6 : P.length ≤ 6) (hn : ∀ x ∈ P, Nm x) (hs : P.Pairwise sl) : g_wrong_in_places [wP P] = some (.lst [], true) := by
  have key : ∀ (rest done : List Str), P = done ++ rest → goW gl_wrong_in_places [] 6 (tS P) done.length (tS rest) = some [] := by
    intro rest
    induction rest with
    | nil => intro done _; rfl
    | cons x rest ih =>
      intro done hl
      have hd : ¬ ((done.length : Int) = 6) := by
        have := congrArg List.length hl
        simp only [List.length_append, List.length_cons] at this
        omega
      have ht : (tS P).take done.length = tS done := by rw [hl]; simp [tS]
      have hg : gl_wrong_in_places [.tup false (tS done), .str x] = some (.bl true, false) := by
        have h1 := is_name_eq (hn x (by rw [hl]; simp))
        have h2 := below_eq (take_before hl hs)
        unfold gl_wrong_in_places fnE
        simp [ml_wrong_in_places, rget, h1, h2]
      have := ih (done ++ [x]) (by rw [hl]; simp)
      simp only [tS, List.map_cons, goW] at this ht hg ⊢
      rw [if_neg hd, ht]
      simp only [List.append_nil]
      rw [hg]
      simpa using this
  have h0 : GW_wrong_in_places [wP P, .int 2, .int 6] [] = some [] := by
    simp only [GW_wrong_in_places, wrongT]
    rw [if_neg (by simp only [tS, List.length_map]; omega)]
    exact key P [] rfl
  refine fnG_of rfl ?_
  unfold m_wrong_in_places
  simp [giveM, rget, capsM, h0, outR]
end Rv
end

section
set_option Elab.async false
set_option autoImplicit false
set_option linter.all false
set_option maxRecDepth 100000
set_option maxHeartbeats 200000
namespace Rv
open PySem PySem.Spec L2 LamX NdefX
open PyProof.Rows hiding St
abbrev pl (a b : Str × Str) : Prop := PySem.W.dataLt (pd (pr a)) (pd (pr b)) = true
theorem lt_pr {a b : Str × Str} : gLt [pr a, pr b] = some (.bl (PySem.W.dataLt (pd (pr a)) (pd (pr b))), false) := by
  simp only [gLt, gCmp]
  rw [if_pos ⟨rfl, rfl, by simp [pr, pd, pdL, PySem.W.alike, PySem.W.alikeAll], rfl⟩]
theorem ix_lastP {l : List (Str × Str)} {k : Bool} (h : l ≠ []) : ∃ e ∈ l, gIx [.tup k (tP l), .int (-1)] = some (pr e, false) := by
  obtain ⟨v, x, rfl⟩ : ∃ v x, l = v ++ [x] := ⟨_, _, (List.dropLast_concat_getLast h).symm⟩
  refine ⟨x, by simp, ?_⟩
  have h1 : ixN (tP (v ++ [x])).length (-1) = some v.length := by
    simp only [ixN, tP, List.length_map, List.length_append, List.length_cons, List.length_nil]
    rw [if_neg (by decide), if_pos (by omega)]
    congr 1
    omega
  simp only [gIx, atI, h1]
  simp [tP]
theorem belowP_eq {l : List (Str × Str)} {x : Str × Str} (h : ∀ y ∈ l, pl y x) : g_are_below [.tup false (tP l), pr x] = some (.bl true, false) := by
  refine fnG_of rfl ?_
  unfold m_are_below
  have h1 : gEq [.tup false (tP l), .tup false []] = some (.bl (decide (l = [])), false) := by
    simp only [gEq]
    rw [if_pos ⟨by show dOkL 11 (tP l) = true; exact dOkL_P, rfl⟩]
    simp only [teq]
    rw [teqL_nil]
    cases l <;> simp
  by_cases hl : l = []
  · rw [decide_eq_true hl] at h1
    simp [rget, h1, outR]
  · rw [decide_eq_false hl] at h1
    obtain ⟨e, he, h2⟩ := ix_lastP (k := false) hl
    have h4 := lt_pr (a := e) (b := x)
    rw [h e he] at h4
    simp [rget, h1, h2, h4, outR]
theorem one_of_eq {x : Str} {P : List Str} {k : Bool} (h : x ∈ P) : g_is_one_of [.str x, .tup k (tS P)] = some (.bl true, false) := by
  refine fnG_of rfl ?_
  have h1 := in_S (neg := false) (k := k) (x := x) (l := P)
  rw [decide_eq_true h] at h1
  simp [m_is_one_of, rget, gIsi, isiT, tyN, tys, h1, outR]
theorem pair_eq {e : Str × Str} : g_is_pair [pr e] = some (.bl true, false) := by
  have h : g_is_tuple_of [pr e, .int 2] = some (.bl true, false) := by
    refine fnG_of rfl ?_
    simp [m_is_tuple_of, rget, gIsi, isiT, tyN, tys, gLen, gEqI, outR]
  refine fnG_of rfl ?_
  simp only [pr] at h
  simp [m_is_pair, rget, h, outR]
theorem tie_eq {e : Str × Str} {P : List Str} {k : Bool} (h1 : e.1 ∈ P) (h2 : e.2 ∈ P) (h3 : sl e.1 e.2) : g_is_tie_of [.tup k (tS P), pr e] = some (.bl true, false) := by
  refine fnG_of rfl ?_
  have a1 := pair_eq (e := e)
  have a2 := one_of_eq (k := k) h1
  have a3 := one_of_eq (k := k) h2
  have a4 := lt_str (x := e.1) (y := e.2)
  rw [decide_eq_true h3] at a4
  have i0 : gIx [pr e, .int 0] = some (.str e.1, false) := by simp [gIx, atI, ixN]
  have i1 : gIx [pr e, .int 1] = some (.str e.2, false) := by simp [gIx, atI, ixN]
  unfold m_is_tie_of
  simp only [pr] at a1 i0 i1
  simp [rget, a1, a2, a3, a4, i0, i1, outR]
theorem beforeP {E done rest : List (Str × Str)} {x : Str × Str} (hl : E = done ++ x :: rest) (hs : E.Pairwise pl) : ∀ y ∈ done, pl y x := by
  intro y hy
  rw [hl, List.pairwise_append] at hs
  exact hs.2.2 y hy x List.mem_cons_self
theorem wrong_ties_eq {P : List Str} {E : List (Str × Str)} (h1 : E ≠ []) (h9 : E.length ≤ 9) (hI : EdgesIn E P) (ho : ∀ e ∈ E, sl e.1 e.2) (hs : E.Pairwise pl) : g_wrong_in_ties [wP P, wE E] = some (.lst [], true) := by
  have key : ∀ (rest done : List (Str × Str)), E = done ++ rest → goW gl_wrong_in_ties [wP P] 9 (tP E) done.length (tP rest) = some [] := by
    intro rest
    induction rest with
    | nil => intro done _; rfl
    | cons x rest ih =>
      intro done hl
      have hd : ¬ ((done.length : Int) = 9) := by
        have := congrArg List.length hl
        simp only [List.length_append, List.length_cons] at this
        omega
      have hx : x ∈ E := by rw [hl]; simp
      have ht : (tP E).take done.length = tP done := by rw [hl]; simp [tP]
      have hg : gl_wrong_in_ties [.tup false (tP done), pr x, wP P] = some (.bl true, false) := by
        have h1 := tie_eq (k := true) (hI x hx).1 (hI x hx).2 (ho x hx)
        have h2 := belowP_eq (beforeP hl hs)
        unfold gl_wrong_in_ties fnE
        simp only [pr] at h1 h2 ⊢
        simp [ml_wrong_in_ties, rget, h1, h2]
      have := ih (done ++ [x]) (by rw [hl]; simp)
      simp only [tP, List.map_cons, goW] at this ht hg ⊢
      rw [if_neg hd, ht]
      simp only [List.cons_append, List.nil_append]
      rw [hg]
      simpa using this
  have hE : 1 ≤ E.length := by
    have := List.length_pos_iff.mpr h1
    omega
  have h0 : GW_wrong_in_ties [wE E, .int 1, .int 9] [wP P] = some [] := by
    simp only [GW_wrong_in_ties, wrongT]
    rw [if_neg (by simp only [tP, List.length_map]; omega)]
    exact key E [] rfl
  refine fnG_of rfl ?_
  unfold m_wrong_in_ties
  simp [giveM, rget, capsM, h0, outR]
/-- a web as the law draws it -/
structure Good (P : List Str) (E : List (Str × Str)) : Prop where
  l2 : 2 ≤ P.length
  l6 : P.length ≤ 6
  nm : ∀ x ∈ P, Nm x
  so : P.Pairwise sl
  e0 : E ≠ []
  e9 : E.length ≤ 9
  inP : EdgesIn E P
  up : ∀ e ∈ E, sl e.1 e.2
  sp : E.Pairwise pl
  all : ∀ x ∈ P, ∀ y ∈ P, Reach E x y
theorem sl_irr (x : Str) : ¬ sl x x := List.lt_irrefl _
theorem Good.nd {P : List Str} {E : List (Str × Str)} (g : Good P E) : P.Nodup := g.so.imp fun h e => by subst e; exact sl_irr _ h
theorem made_eq {P : List Str} {E : List (Str × Str)} (g : Good P E) : g__law_made [wL P E] = some (wV P E, true) := by
  have h1 := wrong_places_eq g.l2 g.l6 g.nm g.so
  have h2 := wrong_ties_eq g.e0 g.e9 g.inP g.up g.sp
  have h3 := hangT_eq (Pt := wP P) (Et := wE E) (.inr ⟨_, rfl⟩) (.inr ⟨_, rfl⟩) (by have := g.e9; omega) (by have := g.l2; intro z; rw [z] at this; simp at this) g.nd (by have := g.l6; omega) g.inP
  rw [hang_iff.mpr g.all] at h3
  have hi : g_Web_init (.ins 0 [] []) [wP P, wE E] = some ((.non, false), wV P E) := by
    refine fnI_of rfl ?_
    unfold m_Web_init
    refine go_seq ⟨(.nx, [some (.ins 0 [] [], .io), some (wP P, .fr), some (wE E, .fr), none]), ?_, ?_⟩
    · rw [for_eq (ts := []) (ρ1 := [some (.ins 0 [] [], .io), some (wP P, .fr), some (wE E, .fr), none]) (src_ll (b := true) (by simp [startI, rget, h1]))]
      rfl
    refine go_seq ⟨(.nx, [some (.ins 0 [] [], .io), some (wP P, .fr), some (wE E, .fr), none]), ?_, ?_⟩
    · rw [for_eq (ts := []) (ρ1 := [some (.ins 0 [] [], .io), some (wP P, .fr), some (wE E, .fr), none]) (src_ll (b := true) (by simp [rget, h2]))]
      rfl
    refine go_seq ⟨(.nx, [some (.ins 0 [] [], .io), some (wP P, .fr), some (wE E, .fr), none]), by simp [ifM, rget, h3], ?_⟩
    simp [rget, mutM, ownM, valsR, gSetA, putFT, outI, wV]
  refine fnG_of rfl ?_
  unfold m__law_made
  simp [rget, wL0, wL1, gMake, hi, outR]
end Rv
end

section
set_option Elab.async false
set_option autoImplicit false
set_option linter.all false
set_option maxRecDepth 100000
set_option maxHeartbeats 200000
namespace Rv
open PySem PySem.Spec L2 LamX NdefX
open PyProof.Rows hiding St
/-! ### the law's names: always one left -/
def ltrs (x : Str) : Prop := ∀ c ∈ x.cps.toList, c ∈ abc.cps.toList
def pre7 (x : Str) : Str := cutS x none (some 7)
def plus (x : Str) (c : Nat) : Str := x ++ ⟨#[c]⟩
def cands (x : Str) : List Str := x :: abc.cps.toList.map (plus (pre7 x))
theorem app_cps (x y : Str) : (x ++ y).cps.toList = x.cps.toList ++ y.cps.toList := by
  have e : (x ++ y).cps = x.cps ++ y.cps := rfl
  rw [e, Array.toList_append]
theorem plus_cps (x : Str) (c : Nat) : (plus x c).cps.toList = x.cps.toList ++ [c] := by
  unfold plus
  rw [app_cps]
theorem pre7_cps (x : Str) : (pre7 x).cps.toList = x.cps.toList.take 7 := by
  have h : x.length = x.cps.toList.length := rfl
  unfold pre7 cutS
  simp only [HT.sIx, h]
  simp
theorem str_len (x : Str) : x.length = x.cps.toList.length := rfl
theorem cands_ltrs {x : Str} (h : ltrs x) : ∀ y ∈ cands x, ltrs y := by
  intro y hy
  rcases List.mem_cons.mp hy with rfl | hy
  · exact h
  · obtain ⟨c, hc, rfl⟩ := List.mem_map.mp hy
    intro d hd
    rw [plus_cps, pre7_cps] at hd
    rcases List.mem_append.mp hd with q | q
    · exact h d (List.mem_of_mem_take q)
    · rw [List.mem_singleton.mp q]; exact hc
theorem cands_len {x : Str} (h : x.length ≤ 8) : ∀ y ∈ cands x, y.length ≤ 8 := by
  intro y hy
  rcases List.mem_cons.mp hy with rfl | hy
  · exact h
  · obtain ⟨c, hc, rfl⟩ := List.mem_map.mp hy
    rw [str_len, plus_cps, pre7_cps]
    simp
    omega
theorem cands_ne {x : Str} (h : x ≠ "") : ∀ y ∈ cands x, y ≠ "" := by
  intro y hy
  rcases List.mem_cons.mp hy with rfl | hy
  · exact h
  · obtain ⟨c, hc, rfl⟩ := List.mem_map.mp hy
    intro e
    have := congrArg (fun z : Str => z.cps.toList) e
    simp only [plus_cps] at this
    have e2 : (("" : Str)).cps.toList = [] := rfl
    rw [e2] at this
    simp at this
def dl (x : Str) : List Nat := x.cps.toList.dropLast
theorem words_few (p : List Nat) : (words32.filter fun z => decide (dl z = p)).length ≤ 20 := by
  cases h : words32.filter fun z => decide (dl z = p) with
  | nil => simp
  | cons w l =>
    have hw : w ∈ words32.filter fun z => decide (dl z = p) := by rw [h]; exact List.mem_cons_self
    obtain ⟨h1, h2⟩ := List.mem_filter.mp hw
    have e : dl w = p := of_decide_eq_true h2
    have := (by decide +kernel : ∀ w ∈ words32, (words32.filter fun z => decide (dl z = dl w)).length ≤ 20) w h1
    rw [← h, ← e]
    exact this
theorem abc_nd : abc.cps.toList.Nodup := by decide +kernel
theorem abc_len : abc.cps.toList.length = 26 := by decide +kernel
theorem one_left (x : Str) {found : List Str} (hf : found.length ≤ 5) : ∃ y ∈ cands x, y ∉ words32 ++ found := by
  apply Classical.byContradiction
  intro k
  have hall : ∀ y ∈ cands x, y ∈ words32 ++ found := fun y hy => Classical.byContradiction fun z => k ⟨y, hy, z⟩
  have hdl : ∀ c, dl (plus (pre7 x) c) = (pre7 x).cps.toList := by
    intro c
    unfold dl
    rw [plus_cps]
    simp
  have hnd : (abc.cps.toList.map (plus (pre7 x))).Nodup := by
    rw [List.nodup_iff_pairwise_ne, List.pairwise_map]
    refine (List.nodup_iff_pairwise_ne.mp abc_nd).imp ?_
    intro a b hab e
    have := congrArg (fun z : Str => z.cps.toList) e
    simp only [plus_cps] at this
    simp at this
    exact hab this
  have := nodup_le (m := (words32 ++ found).filter fun z => decide (dl z = (pre7 x).cps.toList)) hnd (by
    intro y hy
    refine List.mem_filter.mpr ⟨hall y (List.mem_cons_of_mem _ hy), ?_⟩
    obtain ⟨c, _, rfl⟩ := List.mem_map.mp hy
    rw [hdl c]
    exact decide_eq_true rfl)
  rw [List.length_map, abc_len, List.filter_append, List.length_append] at this
  have h1 := words_few (pre7 x).cps.toList
  have h2 := List.length_filter_le (fun z => decide (dl z = (pre7 x).cps.toList)) found
  omega
end Rv
end

section
set_option Elab.async false
set_option autoImplicit false
set_option linter.all false
set_option maxRecDepth 100000
set_option maxHeartbeats 400000
namespace Rv
open PySem PySem.Spec L2 LamX NdefX
open PyProof.Rows hiding St
def wds1 : Str := "all back book bright case chance colour cut draw first game in none of once open out paint place proper"
def wds2 : Str := "quit rule short single take tie two undo way web win yes"
theorem split1 (ρ : Rho) : splitM wds1 " " ρ = some ((.lst (tS (words32.take 20)), true), ρ) := by
  have h : Txt.split wds1 " " = words32.take 20 := by decide +kernel
  unfold splitM
  rw [if_pos (by decide +kernel), h]
theorem split2 (ρ : Rho) : splitM wds2 " " ρ = some ((.lst (tS (words32.drop 20)), true), ρ) := by
  have h : Txt.split wds2 " " = words32.drop 20 := by decide +kernel
  unfold splitM
  rw [if_pos (by decide +kernel), h]
def NS (a b c : Int) (n : Nat) (found : List Str) (s6 s7 s8 s9 s10 s11 : Option (T × Own)) : Rho :=
  [some (bw a b c, .io), some (.int (n : Nat), .fr), some (.str wds1, .fr), some (.str wds2, .fr), some (.lst (tS words32), .ow), some (.lst (tS found), .ow), s6, s7, s8, s9, s10, s11]
theorem ix_abc {r : Int} (h0 : 0 ≤ r) (h1 : r < 26) : ∃ c ∈ abc.cps.toList, gIx [.str "abcdefghijklmnopqrstuvwxyz", .int r] = some (.str ⟨#[c]⟩, false) := by
  have hr : r.toNat < abc.cps.toList.length := by rw [abc_len]; omega
  refine ⟨abc.cps.toList[r.toNat], List.getElem_mem hr, ?_⟩
  have hx : ixN abc.cps.toList.length r = some r.toNat := by
    rw [abc_len]
    simp only [ixN]
    rw [if_pos h0, if_pos (by omega)]
  show (atI abc.cps.toList r).map _ = _
  simp only [atI, hx, Option.bind_some]
  rw [List.getElem?_eq_getElem hr]
  rfl
theorem add_str {x y : Str} (h : x.length + y.length ≤ 16777216) : gAdd [.str x, .str y] = some (.str (x ++ y), false) := if_pos h
/-- the signs drawn for a name -/
theorem name_signs {a b c : Int} {n m : Nat} {found : List Str} {s6 s8 s9 s10 s11 : Option (T × Own)} (hm : m ≤ 8) (n8 : Nio s8) {Q : Out × Rho → Prop}
    (q : ∀ (a b c : Int) (x : Str) s8, Nio s8 → ltrs x → x.cps.toList.length = m → Q (.nx, NS a b c n found s6 (some (.str x, .fr)) s8 s9 s10 s11)) :
    Go (forLoop (.nm 8) (asgM 7 (primM [.pk 7, .val (primM [.val (conM (.str "abcdefghijklmnopqrstuvwxyz")), .val (callIM 0 [.val (conM (.int 26))] g__law_draw)] gIx)] gAdd)) ((List.range m).map fun i : Nat => T.int (0 + (i : Nat))) (NS a b c n found s6 (some (.str "", .fr)) s8 s9 s10 s11)) Q := by
  refine go_loopM (J := fun done rest ρ => ∃ (a b c : Int) (x : Str) (s8 : Option (T × Own)), ρ = NS a b c n found s6 (some (.str x, .fr)) s8 s9 s10 s11 ∧ Nio s8 ∧ ltrs x ∧ x.cps.toList.length = done.length) ?_ ?_ ⟨a, b, c, "", s8, rfl, n8, (fun c hc => nomatch hc), rfl⟩
  · rintro ρ ⟨a, b, c, x, s8, rfl, n8, hx, hl⟩
    exact q a b c x s8 n8 hx (by rw [hl, List.length_range])
  · rintro done i rest ρ hl ⟨a, b, c, x, s8, rfl, n8, hx, hxl⟩
    have hd : done.length ≤ 8 := by
      have := congrArg List.length hl
      simp only [List.length_range, List.length_append, List.length_cons] at this
      omega
    obtain ⟨r, a', b', c', h0, h1, e⟩ := draw_eq a b c (many := 26) (by omega) (by omega)
    obtain ⟨d, hd2, e2⟩ := ix_abc h0 h1
    have e3 := add_str (x := x) (y := ⟨#[d]⟩) (by rw [str_len, hxl]; show done.length + 1 ≤ _; omega)
    refine ⟨NS a b c n found s6 (some (.str x, .fr)) (some (.int (0 + (i : Nat)), .fr)) s9 s10 s11, by simp only [tgM]; rw [setM_nio (s := s8) rfl n8 (by simp [NS])]; rfl, ?_⟩
    refine ⟨(.nx, NS a' b' c' n found s6 (some (.str (plus x d), .fr)) (some (.int (0 + (i : Nat)), .fr)) s9 s10 s11), ?_, a', b', c', plus x d, _, rfl, nio_fr, ?_, ?_⟩
    · simp [NS, rget, callIM, ownM, e, e2, e3, plus]
    · intro z hz
      rw [plus_cps] at hz
      rcases List.mem_append.mp hz with q | q
      · exact hx z q
      · rw [List.mem_singleton.mp q]; exact hd2
    · rw [plus_cps, List.length_append, hxl]
      simp
end Rv
end

section
set_option Elab.async false
set_option autoImplicit false
set_option linter.all false
set_option maxRecDepth 100000
set_option maxHeartbeats 400000
namespace Rv
open PySem PySem.Spec L2 LamX NdefX
open PyProof.Rows hiding St
theorem prim2 {f g : M} {k : List T → Option Res} {ρ ρ1 ρ2 : Rho} {r s t : Res} (h : f ρ = some (r, ρ1)) (h2 : g ρ1 = some (s, ρ2)) (h3 : k [r.1, s.1] = some t) : primM [.val f, .val g] k ρ = some (t, ρ2) := by
  simp only [primM, opsM, h, h2, resolves, resolve, h3]
theorem cut7 {x : Str} : gSlH [.str x, .int 7] = some (.str (pre7 x), false) := rfl
theorem cands_comp {a b c : Int} {n : Nat} {found : List Str} {x : Str} {s6 s8 s9 s10 s11 : Option (T × Own)} (n11 : Nio s11) :
    primM [.val (storeM [.val (varM 7)] gMkL), .val (compM (strM (conM (.str "abcdefghijklmnopqrstuvwxyz"))) (.nm 11) yesM (primM [.val (primM [.pk 7, .val (conM (.int 7))] gSlH), .pk 11] gAdd) [11])] gAdd (NS a b c n found s6 (some (.str x, .fr)) s8 s9 s10 s11) = some ((.lst (tS (cands x)), true), NS a b c n found s6 (some (.str x, .fr)) s8 s9 s10 none) := by
  have c1 := comp_all (ρ := NS a b c n found s6 (some (.str x, .fr)) s8 s9 s10 s11) (ρ1 := NS a b c n found s6 (some (.str x, .fr)) s8 s9 s10 s11) (ρw := NS a b c n found s6 (some (.str x, .fr)) s8 s9 s10 none) (src := strM (conM (.str "abcdefghijklmnopqrstuvwxyz"))) (tg := .nm 11) (cnd := yesM) (elt := primM [.val (primM [.pk 7, .val (conM (.int 7))] gSlH), .pk 11] gAdd) (vs := [11])
    (F := fun d : Nat => T.str ⟨#[d]⟩) (G := fun d => T.str (plus (pre7 x) d)) (l := abc.cps.toList) rfl (by rw [wipe_nio (s := s11) rfl n11 (by simp [NS])]; rfl) (by rw [abc_len]; decide)
    (fun d hd => ⟨NS a b c n found s6 (some (.str x, .fr)) s8 s9 s10 (some (.str ⟨#[d]⟩, .fr)), rfl, by
      have e := add_str (x := pre7 x) (y := ⟨#[d]⟩) (by rw [str_len, pre7_cps]; have := List.length_take_le 7 x.cps.toList; show _ + 1 ≤ _; omega)
      simp [turnM, NS, rget, cut7, e, plus, wipeR, wipe1R]⟩)
  refine prim2 (r := (.lst [.str x], true)) (by simp [NS, rget]) c1 ?_
  have e := add_ll (l := [T.str x]) (m := abc.cps.toList.map fun d => T.str (plus (pre7 x) d)) (by rw [List.length_map, abc_len]; simp only [List.length_cons, List.length_nil, lim_val]; omega)
  rw [e]
  simp [cands, tS, Function.comp_def]
theorem left_comp {a b c : Int} {n : Nat} {found : List Str} {x : Str} {s6 s8 s9 s10 s11 : Option (T × Own)} (hf : found.length ≤ 5) (n10 : Nio s10) (n11 : Nio s11) :
    compM (srcM (primM [.val (storeM [.val (varM 7)] gMkL), .val (compM (strM (conM (.str "abcdefghijklmnopqrstuvwxyz"))) (.nm 11) yesM (primM [.val (primM [.pk 7, .val (conM (.int 7))] gSlH), .pk 11] gAdd) [11])] gAdd)) (.nm 10) (primM [.pk 10, .val (primM [.pk 4, .pk 5] gAdd)] (gIn true)) (varM 10) [10] (NS a b c n found s6 (some (.str x, .fr)) s8 s9 s10 s11)
      = some ((.lst (tS ((cands x).filter fun y => !decide (y ∈ words32 ++ found))), true), NS a b c n found s6 (some (.str x, .fr)) s8 s9 none none) := by
  have hcl : (cands x).length ≤ 27 := by simp only [cands, List.length_cons, List.length_map, abc_len]; omega
  have hadd := add_ll (l := tS words32) (m := tS found) (by simp only [tS, List.length_map, lim_val]; have : words32.length = 32 := rfl; omega)
  have c1 := comp_map (ρ := NS a b c n found s6 (some (.str x, .fr)) s8 s9 s10 s11) (ρ1 := NS a b c n found s6 (some (.str x, .fr)) s8 s9 s10 none) (ρw := NS a b c n found s6 (some (.str x, .fr)) s8 s9 none none) (tg := .nm 10) (cnd := primM [.pk 10, .val (primM [.pk 4, .pk 5] gAdd)] (gIn true)) (elt := varM 10) (vs := [10])
    (F := T.str) (G := T.str) (l := cands x) (p := fun y => !decide (y ∈ words32 ++ found)) (src_ll (cands_comp n11)) (by rw [wipe_nio (s := s10) rfl n10 (by simp [NS])]; rfl) (lim_ge (by omega))
    (fun y hy => ⟨NS a b c n found s6 (some (.str x, .fr)) s8 s9 (some (.str y, .fr)) none, rfl, by
      have e := in_SL (neg := true) (x := y) (l := words32 ++ found)
      have e2 : tS (words32 ++ found) = tS words32 ++ tS found := by simp [tS]
      rw [e2] at e
      by_cases q : y ∈ words32 ++ found
      · rw [decide_eq_true q] at e
        simp only [decide_eq_true q]
        simp only [turnM, primM, opsM, NS, rget, List.getD_cons_succ, List.getD_cons_zero, resolves, resolve, Option.map_some, hadd, e]
        simp [wipeR, wipe1R, rget]
      · rw [decide_eq_false q] at e
        simp only [decide_eq_false q]
        simp only [turnM, primM, opsM, NS, rget, List.getD_cons_succ, List.getD_cons_zero, resolves, resolve, Option.map_some, hadd, e]
        simp [wipeR, wipe1R, rget]⟩)
  exact c1
end Rv
end

section
set_option Elab.async false
set_option autoImplicit false
set_option linter.all false
set_option maxRecDepth 100000
set_option maxHeartbeats 400000
namespace Rv
open PySem PySem.Spec L2 LamX NdefX
open PyProof.Rows hiding St
/-! ### sorted texts -/
def sle (x y : Str) : Bool := tle (.str x) (.str y)
theorem sle_eq {x y : Str} : sle x y = decide (x.cps.toList ≤ y.cps.toList) := by
  show (!PySem.W.dataLt (.str y) (.str x)) = _
  rw [PySem.W.dataLt_str]
  by_cases h : y.cps.toList < x.cps.toList
  · rw [decide_eq_true h, decide_eq_false (fun z => (List.not_le.mpr h) z)]; rfl
  · rw [decide_eq_false h, decide_eq_true (List.not_lt.mp h)]; rfl
theorem sort_S {l : List Str} (hl : l.length ≤ lim) : gSort [.lst (tS l)] = some (.lst (tS (l.mergeSort sle)), true) := by
  have h1 : srtOk (tS l) = true := by
    unfold srtOk
    simp only [Bool.and_eq_true, Bool.or_eq_true]
    refine ⟨⟨dOkL_S, ?_⟩, .inr ?_⟩
    · simp only [List.all_eq_true, tS, List.mem_map]
      rintro _ ⟨u, _, rfl⟩ _ ⟨v, _, rfl⟩
      rfl
    · simp only [List.all_eq_true, tS, List.mem_map]
      rintro _ ⟨u, hu, rfl⟩
      rfl
  simp only [gSort]
  rw [if_pos ⟨h1, by simpa [tS] using hl⟩]
  congr 3
  exact (List.map_mergeSort (f := T.str) (r := sle) (s := tle) fun a _ b _ => rfl).symm
theorem str_ext {x y : Str} (h : x.cps.toList = y.cps.toList) : x = y := PySem.W.str_of_cps h
theorem sorted_sl {l : List Str} (hn : l.Nodup) : (l.mergeSort sle).Pairwise sl := by
  have h1 : (l.mergeSort sle).Pairwise (fun x y => sle x y = true) := List.pairwise_mergeSort (fun a b c h1 h2 => by
    rw [sle_eq, decide_eq_true_iff] at *
    exact List.le_trans h1 h2) (fun a b => by
    rw [sle_eq, sle_eq, Bool.or_eq_true, decide_eq_true_iff, decide_eq_true_iff]
    exact List.le_total _ _) l
  have h2 : (l.mergeSort sle).Nodup := (List.mergeSort_perm l sle).nodup_iff.mpr hn
  refine (h1.and h2).imp ?_
  rintro x y ⟨h3, h4⟩
  rw [sle_eq, decide_eq_true_iff] at h3
  apply Classical.byContradiction
  intro k
  exact h4 (str_ext (List.le_antisymm h3 (List.not_lt.mp k)))
end Rv
end

section
set_option Elab.async false
set_option autoImplicit false
set_option linter.all false
set_option maxRecDepth 100000
set_option maxHeartbeats 400000
namespace Rv
open PySem PySem.Spec L2 LamX NdefX
open PyProof.Rows hiding St
theorem mkT6 {a b c d e f : T} : gMkT [a, b, c, d, e, f] = some (.tup false [a, b, c, d, e, f], false) := if_pos (by show 6 ≤ 16777216; decide)
theorem law_names_eq (a b c : Int) {n : Nat} (hn : n ≤ 6) : ∃ (P : List Str) (a' b' c' : Int), g__law_names (bw a b c) [.int (n : Nat)] = some ((wP P, false), bw a' b' c') ∧ P.length = n ∧ (∀ x ∈ P, Nm x) ∧ P.Pairwise sl := by
  suffices h : Go (m__law_names (startI 12 (bw a b c) [.int (n : Nat)])) fun x => ∃ (P : List Str) (a' b' c' : Int), outI (some x) = some ((wP P, false), bw a' b' c') ∧ P.length = n ∧ (∀ x ∈ P, Nm x) ∧ P.Pairwise sl by
    obtain ⟨x, e, P, a', b', c', e2, q⟩ := h
    exact ⟨P, a', b', c', fnI_of rfl ⟨x, e, e2⟩, q⟩
  unfold m__law_names
  refine go_seq ⟨(.nx, [some (bw a b c, .io), some (.int (n : Nat), .fr), some (.str wds1, .fr), none, none, none, none, none, none, none, none, none]), rfl, ?_⟩
  refine go_seq ⟨(.nx, [some (bw a b c, .io), some (.int (n : Nat), .fr), some (.str wds1, .fr), some (.str wds2, .fr), none, none, none, none, none, none, none, none]), rfl, ?_⟩
  have h1 : splitVM 2 " " [some (bw a b c, .io), some (.int (n : Nat), .fr), some (.str wds1, .fr), some (.str wds2, .fr), none, none, none, none, none, none, none, none] = some ((.lst (tS (words32.take 20)), true), [some (bw a b c, .io), some (.int (n : Nat), .fr), some (.str wds1, .fr), some (.str wds2, .fr), none, none, none, none, none, none, none, none]) := by
    simp only [splitVM, rget, List.getD_cons_succ, List.getD_cons_zero]
    exact split1 _
  have h2 : splitVM 3 " " [some (bw a b c, .io), some (.int (n : Nat), .fr), some (.str wds1, .fr), some (.str wds2, .fr), none, none, none, none, none, none, none, none] = some ((.lst (tS (words32.drop 20)), true), [some (bw a b c, .io), some (.int (n : Nat), .fr), some (.str wds1, .fr), some (.str wds2, .fr), none, none, none, none, none, none, none, none]) := by
    simp only [splitVM, rget, List.getD_cons_succ, List.getD_cons_zero]
    exact split2 _
  have h3 : gAdd [.lst (tS (words32.take 20)), .lst (tS (words32.drop 20))] = some (.lst (tS words32), true) := by
    rw [add_ll (by simp only [tS, List.length_map, lim_val]; decide)]
    rfl
  have h4 := prim2 h1 h2 h3
  refine go_seq ⟨(.nx, NS a b c n [] none none none none none none), ?_, ?_⟩
  · unfold parM
    rw [h4]
    simp [NS, rget, tS]
  have hr : r62 (n : Int) = true := by unfold r62; simp only [Bool.and_eq_true, decide_eq_true_eq]; omega
  have hsrc : rng1M (.pk 1) (NS a b c n [] none none none none none none) = some ((List.range n).map fun i : Nat => T.int (0 + (i : Nat)), NS a b c n [] none none none none none none) := by
    unfold rng1M
    simp [NS, rget, hr, intsT]
  refine go_seq (go_for hsrc (go_loopM (J := fun done rest ρ => ∃ (a b c : Int) (found : List Str) (s6 s7 s8 s9 s10 s11 : Option (T × Own)), ρ = NS a b c n found s6 s7 s8 s9 s10 s11 ∧ Nio s6 ∧ Nio s7 ∧ Nio s8 ∧ Nio s9 ∧ Nio s10 ∧ Nio s11 ∧ found.length = done.length ∧ found.Nodup ∧ ∀ x ∈ found, Nm x) ?_ ?_ ⟨a, b, c, [], none, none, none, none, none, none, rfl, nio_none, nio_none, nio_none, nio_none, nio_none, nio_none, rfl, .nil, fun x hx => by cases hx⟩))
  · rintro ρ ⟨a, b, c, found, s6, s7, s8, s9, s10, s11, rfl, _, _, _, _, _, _, hl, hnd, hnm⟩
    rw [List.length_range] at hl
    have hp := List.mergeSort_perm found sle
    have e1 := sort_S (l := found) (lim_ge (by omega))
    have e2 := tup_S (l := tS (found.mergeSort sle)) (by simp only [tS, List.length_map, hp.length_eq, lim_val]; omega)
    refine ⟨(.rt (wP (found.mergeSort sle), false), NS a b c n found s6 s7 s8 s9 s10 s11), by simp [NS, rget, e1, e2], found.mergeSort sle, a, b, c, rfl, by rw [hp.length_eq, hl], fun x hx => hnm x (hp.mem_iff.mp hx), sorted_sl hnd⟩
  · rintro done i rest ρ hl ⟨a, b, c, found, s6, s7, s8, s9, s10, s11, rfl, n6, n7, n8, n9, n10, n11, hfl, hnd, hnm⟩
    have hd : done.length < n := by
      have := congrArg List.length hl
      simp only [List.length_range, List.length_append, List.length_cons] at this
      omega
    refine ⟨NS a b c n found (some (.int (0 + (i : Nat)), .fr)) s7 s8 s9 s10 s11, by simp only [tgM]; rw [setM_nio (s := s6) rfl n6 (by simp [NS])]; rfl, ?_⟩
    refine go_seq ⟨(.nx, NS a b c n found (some (.int (0 + (i : Nat)), .fr)) (some (.str "", .fr)) s8 s9 s10 s11), by rw [asg_nio (s := s7) (t := .str "") (b := false) (ρ1 := NS a b c n found (some (.int (0 + (i : Nat)), .fr)) s7 s8 s9 s10 s11) rfl rfl n7 (by simp [NS])]; rfl, ?_⟩
    obtain ⟨t, ht, a1, b1, c1, e1⟩ := of_eq a b c (k := false) (l := [.int 1, .int 1, .int 2, .int 3, .int 5, .int 8]) (by simp) (by simp)
    obtain ⟨m, hm1, hm8, rfl⟩ : ∃ m : Nat, 1 ≤ m ∧ m ≤ 8 ∧ t = .int (m : Nat) := by
      simp only [List.mem_cons, List.not_mem_nil, or_false] at ht
      rcases ht with rfl | rfl | rfl | rfl | rfl | rfl
      · exact ⟨1, by omega, by omega, rfl⟩
      · exact ⟨1, by omega, by omega, rfl⟩
      · exact ⟨2, by omega, by omega, rfl⟩
      · exact ⟨3, by omega, by omega, rfl⟩
      · exact ⟨5, by omega, by omega, rfl⟩
      · exact ⟨8, by omega, by omega, rfl⟩
    have hr2 : r62 (m : Int) = true := by unfold r62; simp only [Bool.and_eq_true, decide_eq_true_eq]; omega
    have hsrc2 : rng1M (.val (callIM 0 [.val (storeM [.val (conM (.int 1)), .val (conM (.int 1)), .val (conM (.int 2)), .val (conM (.int 3)), .val (conM (.int 5)), .val (conM (.int 8))] gMkT)] g__law_of)) (NS a b c n found (some (.int (0 + (i : Nat)), .fr)) (some (.str "", .fr)) s8 s9 s10 s11) = some ((List.range m).map fun i : Nat => T.int (0 + (i : Nat)), NS a1 b1 c1 n found (some (.int (0 + (i : Nat)), .fr)) (some (.str "", .fr)) s8 s9 s10 s11) := by
      unfold rng1M
      simp [NS, rget, callIM, ownM, mkT6, e1, hr2, intsT]
    refine go_seq (go_for hsrc2 (name_signs hm8 n8 fun a2 b2 c2 x s8' n8' hx hxl => ?_))
    have hx8 : x.length ≤ 8 := by rw [str_len, hxl]; exact hm8
    have hxne : x ≠ "" := by
      rintro rfl
      have : (0 : Nat) = m := hxl
      omega
    have hc := left_comp (a := a2) (b := b2) (c := c2) (n := n) (found := found) (x := x) (s6 := some (.int (0 + (i : Nat)), .fr)) (s8 := s8') (s9 := s9) (by omega) n10 n11
    refine go_seq (go_of (asg_nio (s := s9) hc rfl n9 (by simp [NS])) ?_)
    obtain ⟨y, hy1, hy2⟩ := one_left x (found := found) (by omega)
    obtain ⟨z, zs, hz⟩ := List.exists_cons_of_ne_nil (l := (cands x).filter fun y => !decide (y ∈ words32 ++ found)) (by
      intro k
      rw [List.filter_eq_nil_iff] at k
      have := k y hy1
      simp only [decide_eq_false hy2] at this
      exact this rfl)
    have hzm : z ∈ (cands x).filter fun y => !decide (y ∈ words32 ++ found) := by rw [hz]; exact List.mem_cons_self
    obtain ⟨hz1, hz2⟩ := List.mem_filter.mp hzm
    have hz3 : z ∉ words32 ++ found := by simpa using hz2
    have hz4 : z ∉ words32 := fun k => hz3 (List.mem_append_left _ k)
    have hz5 : z ∉ found := fun k => hz3 (List.mem_append_right _ k)
    rw [hz]
    have hix : gIx [.lst (tS (z :: zs)), .int 0] = some (.str z, false) := ix0 (l := tS zs) (.inl rfl)
    have hfl2 : found.length < lim := by simp only [lim_val]; omega
    refine ⟨(.nx, NS a2 b2 c2 n (found ++ [z]) (some (.int (0 + (i : Nat)), .fr)) (some (.str x, .fr)) s8' (some (.lst (tS (z :: zs)), .ow)) none none), ?_, ?_⟩
    · simp [NS, rget, mutTM, mutM, ownM, tyT, valsR, gAppend, ix0 (l := tS zs) (.inl rfl), hfl2]
    · exact ⟨a2, b2, c2, found ++ [z], _, _, _, _, _, _, rfl, nio_fr, nio_fr, n8', fun o h => by cases h; simp, nio_none, nio_none, by simp [hfl], List.nodup_append.mpr ⟨hnd, by simp, fun p hp q hq e => hz5 (by rw [List.mem_singleton.mp hq] at e; exact e ▸ hp)⟩, fun w hw => (List.mem_append.mp hw).elim (hnm w) fun q => by
        rw [List.mem_singleton.mp q]
        exact ⟨cands_ne hxne z hz1, cands_ltrs hx z hz1, cands_len hx8 z hz1, hz4⟩⟩
end Rv
end

section
set_option Elab.async false
set_option autoImplicit false
set_option linter.all false
set_option maxRecDepth 100000
set_option maxHeartbeats 400000
namespace Rv
open PySem PySem.Spec L2 LamX NdefX
open PyProof.Rows hiding St
/-! ### sorted pairs -/
def ple (a b : Str × Str) : Bool := tle (pr a) (pr b)
theorem alike_pr {a b : Str × Str} : PySem.W.alike (pd (pr a)) (pd (pr b)) = true := by simp [pr, pd, pdL, PySem.W.alike, PySem.W.alikeAll]
theorem lt_pair {a b : Str × Str} : PySem.W.dataLt (pd (pr a)) (pd (pr b)) = decide (sl a.1 b.1 ∨ (a.1 = b.1 ∧ sl a.2 b.2)) := by
  simp only [pr, pd, pdL]
  rw [PySem.W.dataLt_pair rfl rfl]
  simp only [PyData.eqv, PySem.W.dataLt_str]
  by_cases h1 : a.1 = b.1
  · by_cases h2 : a.2 = b.2
    · have := sl_irr b.1
      have h3 := sl_irr b.2
      simp [h1, h2, this, h3]
    · have := sl_irr b.1
      simp [h1, h2, this]
  · simp [h1]
theorem ple_eq {a b : Str × Str} : ple a b = !decide (sl b.1 a.1 ∨ (b.1 = a.1 ∧ sl b.2 a.2)) := by
  show (!PySem.W.dataLt (pd (pr b)) (pd (pr a))) = _
  rw [lt_pair]
theorem sl_trans {x y z : Str} (h : sl x y) (k : sl y z) : sl x z := List.lt_trans h k
theorem sl_tri (x y : Str) : sl x y ∨ x = y ∨ sl y x := by
  by_cases h : sl x y
  · exact .inl h
  · by_cases k : sl y x
    · exact .inr (.inr k)
    · exact .inr (.inl (str_ext (List.le_antisymm (List.not_lt.mp k) (List.not_lt.mp h))))
theorem ple_not {a b : Str × Str} : ple a b = true ↔ ¬ (sl b.1 a.1 ∨ (b.1 = a.1 ∧ sl b.2 a.2)) := by
  rw [ple_eq, Bool.not_eq_true', decide_eq_false_iff_not]
theorem ple_or {a b : Str × Str} : ple a b = true ↔ (sl a.1 b.1 ∨ (a.1 = b.1 ∧ (sl a.2 b.2 ∨ a.2 = b.2))) := by
  rw [ple_not]
  constructor
  · intro h
    rcases sl_tri a.1 b.1 with k | k | k
    · exact .inl k
    · refine .inr ⟨k, ?_⟩
      rcases sl_tri a.2 b.2 with q | q | q
      · exact .inl q
      · exact .inr q
      · exact absurd (.inr ⟨k.symm, q⟩) h
    · exact absurd (.inl k) h
  · rintro (h | ⟨h, h2 | h2⟩) (k | ⟨k, k2⟩)
    · exact sl_irr _ (sl_trans h k)
    · rw [k] at h; exact sl_irr _ h
    · rw [h] at k; exact sl_irr _ k
    · exact sl_irr _ (sl_trans h2 k2)
    · rw [h] at k; exact sl_irr _ k
    · rw [h2] at k2; exact sl_irr _ k2
theorem ple_trans {a b c : Str × Str} (h : ple a b = true) (k : ple b c = true) : ple a c = true := by
  rw [ple_or] at *
  rcases h with h | ⟨h, h2⟩ <;> rcases k with k | ⟨k, k2⟩
  · exact .inl (sl_trans h k)
  · exact .inl (k ▸ h)
  · exact .inl (h ▸ k)
  · refine .inr ⟨h.trans k, ?_⟩
    rcases h2 with h2 | h2 <;> rcases k2 with k2 | k2
    · exact .inl (sl_trans h2 k2)
    · exact .inl (k2 ▸ h2)
    · exact .inl (h2 ▸ k2)
    · exact .inr (h2.trans k2)
theorem ple_total (a b : Str × Str) : (ple a b || ple b a) = true := by
  rw [Bool.or_eq_true, ple_or, ple_or]
  rcases sl_tri a.1 b.1 with k | k | k
  · exact .inl (.inl k)
  · rcases sl_tri a.2 b.2 with q | q | q
    · exact .inl (.inr ⟨k, .inl q⟩)
    · exact .inl (.inr ⟨k, .inr q⟩)
    · exact .inr (.inr ⟨k.symm, .inl q⟩)
  · exact .inr (.inl k)
theorem sorted_pl {l : List (Str × Str)} (hn : l.Nodup) : (l.mergeSort ple).Pairwise pl := by
  have h1 : (l.mergeSort ple).Pairwise (fun x y => ple x y = true) := List.pairwise_mergeSort (le := ple) (fun a b c h1 h2 => ple_trans h1 h2) ple_total l
  have h2 : (l.mergeSort ple).Nodup := (List.mergeSort_perm l ple).nodup_iff.mpr hn
  refine (h1.and h2).imp ?_
  rintro x y ⟨h3, h4⟩
  rw [ple_or] at h3
  show PySem.W.dataLt (pd (pr x)) (pd (pr y)) = true
  rw [lt_pair, decide_eq_true_iff]
  rcases h3 with h3 | ⟨h3, h5 | h5⟩
  · exact .inl h3
  · exact .inr ⟨h3, h5⟩
  · exact absurd (Prod.ext h3 h5) h4
theorem sort_P {l : List (Str × Str)} (hl : l.length ≤ lim) : gSort [.lst (tP l)] = some (.lst (tP (l.mergeSort ple)), true) := by
  have h1 : srtOk (tP l) = true := by
    unfold srtOk
    simp only [Bool.and_eq_true, Bool.or_eq_true]
    refine ⟨⟨dOkL_P, ?_⟩, .inl ?_⟩
    · simp only [List.all_eq_true, tP, List.mem_map]
      rintro _ ⟨u, _, rfl⟩ _ ⟨v, _, rfl⟩
      exact alike_pr
    · simp only [List.all_eq_true, tP, List.mem_map]
      rintro _ ⟨u, hu, rfl⟩
      rfl
  simp only [gSort]
  rw [if_pos ⟨h1, by simpa [tP] using hl⟩]
  congr 3
  exact (List.map_mergeSort (f := pr) (r := ple) (s := tle) fun a _ b _ => rfl).symm
end Rv
end

section
set_option Elab.async false
set_option autoImplicit false
set_option linter.all false
set_option maxRecDepth 100000
set_option maxHeartbeats 400000
namespace Rv
open PySem PySem.Spec L2 LamX NdefX
open PyProof.Rows hiding St
/-! ### the web that the law draws -/
def WS (n most : Nat) (a b c : Int) (P : List Str) (E : List (Str × Str)) (often : Int) (s6 s7 s8 : Option (T × Own)) : Rho :=
  [some (bw a b c, .io), some (.int (n : Nat), .fr), some (.int (most : Nat), .fr), some (wP P, .fr), some (.lst (tP E), .ow), some (.int often, .fr), s6, s7, s8]
/-- the ties of the first k places hang together -/
structure Tr (P : List Str) (E : List (Str × Str)) (k : Nat) : Prop where
  len : E.length + 1 = k
  nd : E.Nodup
  up : ∀ e ∈ E, sl e.1 e.2
  inP : EdgesIn E P
  lt : ∀ e ∈ E, ∃ i, i < k ∧ P[i]? = some e.2
  all : ∀ p0, P[0]? = some p0 → ∀ i x, i < k → P[i]? = some x → Reach E p0 x
theorem web_start {n : Nat} (most : Nat) (hn2 : 2 ≤ n) (hn6 : n ≤ 6) (a b c : Int) : ∃ (P : List Str) (a' b' c' often : Int), 2 ≤ P.length ∧ P.length ≤ n ∧ (∀ x ∈ P, Nm x) ∧ P.Pairwise sl ∧
    seqM (asgM 3 (callIM 0 [.val (primM [.val (conM (.int 2)), .val (callIM 0 [.val (primM [.pk 1, .val (conM (.int 1))] gSub2)] g__law_draw)] gAdd)] g__law_names)) (parM 4 5 (storeM [] gMkL) (callIM 0 [.val (storeM [.val (conM (.int 0)), .val (conM (.int 1)), .val (conM (.int 3)), .val (conM (.int 5))] gMkT)] g__law_of)) (startI 9 (bw a b c) [.int (n : Nat), .int (most : Nat)])
      = some (.nx, WS n most a' b' c' P [] often none none none) := by
  obtain ⟨r, a1, b1, c1, h0, h1, e1⟩ := draw_eq a b c (many := (n : Int) - 1) (by omega) (by omega)
  obtain ⟨m, hm⟩ : ∃ m : Nat, (m : Int) = 2 + r := ⟨(2 + r).toNat, by omega⟩
  obtain ⟨P, a2, b2, c2, e2, hl, hn, hs⟩ := law_names_eq a1 b1 c1 (n := m) (by omega)
  rw [hm] at e2
  obtain ⟨t, ht, a3, b3, c3, e3⟩ := of_eq a2 b2 c2 (k := false) (l := [.int 0, .int 1, .int 3, .int 5]) (by simp) (by simp)
  obtain ⟨often, rfl⟩ : ∃ o : Int, t = .int o := by
    simp only [List.mem_cons, List.not_mem_nil, or_false] at ht
    rcases ht with rfl | rfl | rfl | rfl <;> exact ⟨_, rfl⟩
  have m4 : gMkT [.int 0, .int 1, .int 3, .int 5] = some (.tup false [.int 0, .int 1, .int 3, .int 5], false) := if_pos (by show 4 ≤ 16777216; decide)
  have hsub : gSub2 [.int (n : Nat), .int 1] = some (.int ((n : Int) - 1), false) := rfl
  refine ⟨P, a3, b3, c3, often, by omega, by omega, hn, hs, ?_⟩
  rw [seq_nx (ρ1 := [some (bw a2 b2 c2, .io), some (.int (n : Nat), .fr), some (.int (most : Nat), .fr), some (wP P, .fr), none, none, none, none, none]) (by simp [startI, rget, callIM, ownM, hsub, e1, add_i, e2])]
  simp [parM, rget, callIM, ownM, m4, e3, WS, tP]
theorem Tr.start {P : List Str} (h : 2 ≤ P.length) : Tr P [] 1 where
  len := rfl
  nd := .nil
  up := fun e he => nomatch he
  inP := fun e he => nomatch he
  lt := fun e he => nomatch he
  all := fun p0 h0 i x hi hx => by
    have : i = 0 := by omega
    subst this
    rw [h0] at hx
    cases hx
    exact .refl
theorem reach_app {E : List (Str × Str)} {e : Str × Str} {a b : Str} (h : Reach E a b) : Reach (E ++ [e]) a b := h.mono fun x y k => k.elim (fun z => .inl (List.mem_append_left _ z)) fun z => .inr (List.mem_append_left _ z)
theorem Tr.next {P : List Str} {E : List (Str × Str)} {k r : Nat} {x y : Str} (t : Tr P E k) (hs : P.Pairwise sl) (hr : r < k) (hx : P[r]? = some x) (hy : P[k]? = some y) : Tr P (E ++ [(x, y)]) (k + 1) where
  len := by rw [List.length_append]; simp only [List.length_cons, List.length_nil]; have := t.len; omega
  nd := by
    rw [List.nodup_append]
    refine ⟨t.nd, by simp, fun a ha b hb e => ?_⟩
    rw [List.mem_singleton.mp hb] at e
    subst e
    obtain ⟨i, hi, hp⟩ := t.lt _ ha
    obtain ⟨h1, h2⟩ := List.getElem?_eq_some_iff.mp hp
    obtain ⟨h3, h4⟩ := List.getElem?_eq_some_iff.mp hy
    have := List.pairwise_iff_getElem.mp hs i k h1 h3 hi
    rw [h2, h4] at this
    exact sl_irr _ this
  up := fun e he => (List.mem_append.mp he).elim (t.up e) fun q => by
    rw [List.mem_singleton.mp q]
    obtain ⟨h1, h2⟩ := List.getElem?_eq_some_iff.mp hx
    obtain ⟨h3, h4⟩ := List.getElem?_eq_some_iff.mp hy
    have := List.pairwise_iff_getElem.mp hs r k h1 h3 hr
    rw [h2, h4] at this
    exact this
  inP := fun e he => (List.mem_append.mp he).elim (t.inP e) fun q => by
    rw [List.mem_singleton.mp q]
    exact ⟨List.mem_of_getElem? hx, List.mem_of_getElem? hy⟩
  lt := fun e he => (List.mem_append.mp he).elim (fun q => by
    obtain ⟨i, hi, hp⟩ := t.lt e q
    exact ⟨i, by omega, hp⟩) fun q => by
    rw [List.mem_singleton.mp q]
    exact ⟨k, by omega, hy⟩
  all := fun p0 h0 i z hi hz => by
    by_cases q : i < k
    · exact reach_app (t.all p0 h0 i z q hz)
    · have : i = k := by omega
      subst this
      rw [hy] at hz
      cases hz
      exact (reach_app (t.all p0 h0 r x hr hx)).step (.inl (by simp))
theorem append_P {E : List (Str × Str)} {e : Str × Str} {r : Bool} (h : E.length < lim) : gAppend (.lst (tP E)) [(pr e, r)] = some (.lst (tP (E ++ [e])), .non) := by
  simp only [gAppend, tP, List.length_map]
  rw [if_pos h]
  simp
/-- the first loop: a tree -/
theorem web_tree {n most : Nat} {a b c : Int} {P : List Str} {often : Int} (h2 : 2 ≤ P.length) (h6 : P.length ≤ 6) (hs : P.Pairwise sl) {Q : Out × Rho → Prop}
    (q : ∀ (a b c : Int) (E : List (Str × Str)) s6, Nio s6 → Tr P E P.length → Q (.nx, WS n most a b c P E often s6 none none)) :
    Go (forM (rng2M (.val (conM (.int 1))) (.val (primM [.pk 3] gLen))) (.nm 6) (dropM (mutTM "list" 4 [.val (storeM [.val (primM [.pk 3, .val (callIM 0 [.val (varM 6)] g__law_draw)] gIx), .val (primM [.pk 3, .pk 6] gIx)] gMkT)] gAppend)) (WS n most a b c P [] often none none none)) Q := by
  have hlen : gLen [wP P] = some (.int P.length, false) := by rw [len_seq (.inr ⟨_, rfl⟩)]; simp [tS]
  have hr : r62 (P.length : Int) = true := by unfold r62; simp only [Bool.and_eq_true, decide_eq_true_eq]; omega
  have hr1 : r62 1 = true := by decide
  have hk : ((P.length : Int) - 1).toNat = P.length - 1 := by omega
  have hsrc : rng2M (.val (conM (.int 1))) (.val (primM [.pk 3] gLen)) (WS n most a b c P [] often none none none) = some ((List.range (P.length - 1)).map fun i : Nat => T.int (1 + (i : Nat)), WS n most a b c P [] often none none none) := by
    unfold rng2M
    simp [WS, rget, hlen, hr, hr1, intsT, hk]
  refine go_for hsrc (go_loopM (J := fun done rest ρ => ∃ (a b c : Int) (E : List (Str × Str)) (s6 : Option (T × Own)), ρ = WS n most a b c P E often s6 none none ∧ Nio s6 ∧ Tr P E (done.length + 1)) ?_ ?_ ⟨a, b, c, [], none, rfl, nio_none, Tr.start h2⟩)
  · rintro ρ ⟨a, b, c, E, s6, rfl, n6, t⟩
    rw [List.length_range] at t
    exact q a b c E s6 n6 (by rw [show P.length - 1 + 1 = P.length by omega] at t; exact t)
  · rintro done i rest ρ hl ⟨a, b, c, E, s6, rfl, n6, t⟩
    have hi : i = done.length := by
      have h := congrArg (fun l : List Nat => l[done.length]?) hl
      simp only [List.getElem?_append_right (Nat.le_refl _), Nat.sub_self, List.getElem?_cons_zero] at h
      obtain ⟨h1, h2⟩ := List.getElem?_eq_some_iff.mp h
      rw [List.getElem_range] at h2
      exact h2.symm
    have hd : done.length < P.length - 1 := by
      have := congrArg List.length hl
      simp only [List.length_range, List.length_append, List.length_cons] at this
      omega
    subst hi
    obtain ⟨r, a', b', c', h0, h1, e1⟩ := draw_eq a b c (many := 1 + (done.length : Nat)) (by omega) (by omega)
    have hrn : r.toNat < P.length := by omega
    have er : ((r.toNat : Nat) : Int) = r := Int.toNat_of_nonneg h0
    have x1 : P[r.toNat]? = some P[r.toNat] := List.getElem?_eq_getElem hrn
    have hkn : done.length + 1 < P.length := by omega
    have x2 : P[done.length + 1]? = some P[done.length + 1] := List.getElem?_eq_getElem hkn
    have i1 := ix_at (k := true) (l := tS P) (i := r.toNat) (t := .str P[r.toNat]) (by simp [tS, x1])
    rw [er] at i1
    have i2 := ix_at (k := true) (l := tS P) (i := done.length + 1) (t := .str P[done.length + 1]) (by simp [tS, x2])
    have ek : ((done.length + 1 : Nat) : Int) = 1 + (done.length : Nat) := by omega
    rw [ek] at i2
    have ha := append_P (E := E) (e := (P[r.toNat], P[done.length + 1])) (r := false) (by have := t.len; simp only [lim_val]; omega)
    refine ⟨WS n most a b c P E often (some (.int (1 + (done.length : Nat)), .fr)) none none, by simp only [tgM]; rw [setM_nio (s := s6) rfl n6 (by simp [WS])]; rfl, ?_⟩
    refine ⟨(.nx, WS n most a' b' c' P (E ++ [(P[r.toNat], P[done.length + 1])]) often (some (.int (1 + (done.length : Nat)), .fr)) none none), ?_, a', b', c', _, _, rfl, nio_fr, ?_⟩
    · simp only [pr] at ha
      simp [WS, rget, mutTM, mutM, ownM, tyT, callIM, e1, i1, i2, valsR, ha]
    · rw [List.length_append]
      exact t.next hs (by omega) x1 x2
end Rv
end

section
set_option Elab.async false
set_option autoImplicit false
set_option linter.all false
set_option maxRecDepth 100000
set_option maxHeartbeats 400000
namespace Rv
open PySem PySem.Spec L2 LamX NdefX
open PyProof.Rows hiding St
/-- ties that hold all together, no more than nine -/
structure Ex (most : Nat) (P : List Str) (E : List (Str × Str)) : Prop where
  em : E.length ≤ max most (P.length - 1)
  e0 : E ≠ []
  e9 : E.length ≤ 9
  nd : E.Nodup
  up : ∀ e ∈ E, sl e.1 e.2
  inP : EdgesIn E P
  all : ∀ x ∈ P, ∀ y ∈ P, Reach E x y
theorem Tr.ex {P : List Str} {E : List (Str × Str)} (t : Tr P E P.length) (h2 : 2 ≤ P.length) (h6 : P.length ≤ 6) {most : Nat} : Ex most P E where
  em := by have := t.len; omega
  e0 := fun z => by have := t.len; rw [z] at this; simp at this; omega
  e9 := by have := t.len; omega
  nd := t.nd
  up := t.up
  inP := t.inP
  all := fun x hx y hy => by
    obtain ⟨i, hi, rfl⟩ := List.mem_iff_getElem.mp hx
    obtain ⟨j, hj, rfl⟩ := List.mem_iff_getElem.mp hy
    have h0 : P[0]? = some P[0] := List.getElem?_eq_getElem (by omega)
    exact (t.all _ h0 i _ hi (List.getElem?_eq_getElem hi)).symm.trans (t.all _ h0 j _ hj (List.getElem?_eq_getElem hj))
theorem Ex.add {most : Nat} {P : List Str} {E : List (Str × Str)} {x y : Str} (hm : most ≤ 9) (t : Ex most P E) (hx : x ∈ P) (hy : y ∈ P) (h : sl x y) (hn : (x, y) ∉ E) (hl : E.length < most) : Ex most P (E ++ [(x, y)]) where
  em := by rw [List.length_append]; simp only [List.length_cons, List.length_nil]; omega
  e0 := by simp
  e9 := by rw [List.length_append]; simp only [List.length_cons, List.length_nil]; omega
  nd := List.nodup_append.mpr ⟨t.nd, by simp, fun a ha b hb e => hn (by rw [List.mem_singleton.mp hb] at e; exact e ▸ ha)⟩
  up := fun e he => (List.mem_append.mp he).elim (t.up e) fun q => by rw [List.mem_singleton.mp q]; exact h
  inP := fun e he => (List.mem_append.mp he).elim (t.inP e) fun q => by rw [List.mem_singleton.mp q]; exact ⟨hx, hy⟩
  all := fun a ha b hb => reach_app (t.all a ha b hb)
theorem not_inPL {a b : Str} {l : List (Str × Str)} : gIn true [.tup false [.str a, .str b], .lst (tP l)] = some (.bl (!decide ((a, b) ∈ l)), false) := by
  rw [in_PL]
  simp
theorem web_more {n most : Nat} (hm : most ≤ 9) {a b c : Int} {P : List Str} {E : List (Str × Str)} {often : Int} {s6 : Option (T × Own)} (h6 : P.length ≤ 6) (t : Ex most P E) {Q : Out × Rho → Prop}
    (q : ∀ (a b c : Int) (E : List (Str × Str)) s7 s8, Ex most P E → Q (.nx, WS n most a b c P E often s6 s7 s8)) :
    Go (forM (srcM (varM 3)) (.nm 7) (forM (srcM (varM 3)) (.nm 8) (ifM (andM (primM [.pk 7, .pk 8] gLt) (andM (primM [.val (storeM [.val (varM 7), .val (varM 8)] gMkT), .pk 4] (gIn true)) (andM (primM [.val (callIM 0 [.val (conM (.int 6))] g__law_draw), .pk 5] gLt) (primM [.val (primM [.pk 4] gLen), .pk 2] gLt)))) (dropM (mutTM "list" 4 [.val (storeM [.val (varM 7), .val (varM 8)] gMkT)] gAppend)) (nopM))) (WS n most a b c P E often s6 none none)) Q := by
  refine go_for (srcP (P := P) rfl) (go_loopM (J := fun done rest ρ => ∃ (a b c : Int) (E : List (Str × Str)) (s7 s8 : Option (T × Own)), ρ = WS n most a b c P E often s6 s7 s8 ∧ Nio s7 ∧ Nio s8 ∧ Ex most P E) ?_ ?_ ⟨a, b, c, E, none, none, rfl, nio_none, nio_none, t⟩)
  · rintro ρ ⟨a, b, c, E, s7, s8, rfl, _, _, t⟩
    exact q a b c E s7 s8 t
  · rintro done x rest ρ hl ⟨a, b, c, E, s7, s8, rfl, n7, n8, t⟩
    have hx : x ∈ P := by rw [hl]; simp
    refine ⟨WS n most a b c P E often s6 (some (.str x, .fr)) s8, by simp only [tgM]; rw [setM_nio (s := s7) rfl n7 (by simp [WS])]; rfl, ?_⟩
    refine go_for (srcP (P := P) rfl) (go_loopM (J := fun done rest ρ => ∃ (a b c : Int) (E : List (Str × Str)) (s8 : Option (T × Own)), ρ = WS n most a b c P E often s6 (some (.str x, .fr)) s8 ∧ Nio s8 ∧ Ex most P E) ?_ ?_ ⟨a, b, c, E, s8, rfl, n8, t⟩)
    · rintro ρ ⟨a, b, c, E, s8, rfl, n8, t⟩
      exact ⟨a, b, c, E, _, _, rfl, nio_fr, n8, t⟩
    · rintro done2 y rest2 ρ hl2 ⟨a, b, c, E, s8, rfl, n8, t⟩
      have hy : y ∈ P := by rw [hl2]; simp
      refine ⟨WS n most a b c P E often s6 (some (.str x, .fr)) (some (.str y, .fr)), by simp only [tgM]; rw [setM_nio (s := s8) rfl n8 (by simp [WS])]; rfl, ?_⟩
      obtain ⟨r, a', b', c', h0, h1, e1⟩ := draw_eq a b c (many := 6) (by omega) (by omega)
      have hlt := lt_str (x := x) (y := y)
      have hin := not_inPL (a := x) (b := y) (l := E)
      have hlen : gLen [.lst (tP E)] = some (.int E.length, false) := by simp [gLen, tP]
      have ha := append_P (E := E) (e := (x, y)) (r := false) (by have := t.e9; simp only [lim_val]; omega)
      simp only [pr] at ha
      by_cases k1 : sl x y
      · by_cases k2 : (x, y) ∈ E
        · exact ⟨(.nx, WS n most a b c P E often s6 (some (.str x, .fr)) (some (.str y, .fr))), by simp [ifM, WS, rget, hlt, k1, hin, k2], a, b, c, E, _, rfl, nio_fr, t⟩
        · by_cases k3 : r < often
          · have g9 : gLt [.int (tP E).length, .int (most : Nat)] = some (.bl (decide (E.length < most)), false) := by
              rw [gLtI]; congr 3; rw [List.length_map]; exact decide_eq_decide.mpr (by omega)
            have g8 : gLt [.int E.length, .int (most : Nat)] = some (.bl (decide (E.length < most)), false) := by
              rw [gLtI]; congr 3; exact decide_eq_decide.mpr (by omega)
            have g7 : gLt [.int r, .int often] = some (.bl true, false) := by rw [gLtI, decide_eq_true k3]
            by_cases k4 : E.length < most
            · exact ⟨(.nx, WS n most a' b' c' P (E ++ [(x, y)]) often s6 (some (.str x, .fr)) (some (.str y, .fr))), by simp [ifM, WS, rget, hlt, k1, hin, k2, callIM, ownM, e1, g7, g8, hlen, k4, mutTM, mutM, tyT, valsR, ha], a', b', c', _, _, rfl, nio_fr, t.add hm hx hy k1 k2 k4⟩
            · have k4' : most ≤ E.length := by omega
              exact ⟨(.nx, WS n most a' b' c' P E often s6 (some (.str x, .fr)) (some (.str y, .fr))), by simp [ifM, WS, rget, hlt, k1, hin, k2, callIM, ownM, e1, g7, g8, hlen, k4], a', b', c', _, _, rfl, nio_fr, t⟩
          · exact ⟨(.nx, WS n most a' b' c' P E often s6 (some (.str x, .fr)) (some (.str y, .fr))), by simp [ifM, WS, rget, hlt, k1, hin, k2, callIM, ownM, e1, gLtI, k3], a', b', c', _, _, rfl, nio_fr, t⟩
      · exact ⟨(.nx, WS n most a b c P E often s6 (some (.str x, .fr)) (some (.str y, .fr))), by simp [ifM, WS, rget, hlt, k1], a, b, c, E, _, rfl, nio_fr, t⟩
end Rv
end

section
set_option Elab.async false
set_option autoImplicit false
set_option linter.all false
set_option maxRecDepth 100000
set_option maxHeartbeats 400000
namespace Rv
open PySem PySem.Spec L2 LamX NdefX
open PyProof.Rows hiding St
theorem adj_perm {E E' : List (Str × Str)} (h : E.Perm E') {x y : Str} (k : adj E x y) : adj E' x y := k.elim (fun z => .inl (h.mem_iff.mp z)) fun z => .inr (h.mem_iff.mp z)
theorem Ex.good {most : Nat} {P : List Str} {E : List (Str × Str)} (t : Ex most P E) (h2 : 2 ≤ P.length) (h6 : P.length ≤ 6) (hn : ∀ x ∈ P, Nm x) (hs : P.Pairwise sl) : Good P (E.mergeSort ple) := by
  have hp := List.mergeSort_perm E ple
  exact { l2 := h2, l6 := h6, nm := hn, so := hs, e0 := fun z => t.e0 (by rw [z] at hp; exact hp.symm.eq_nil), e9 := by rw [hp.length_eq]; exact t.e9, inP := fun e he => t.inP e (hp.mem_iff.mp he), up := fun e he => t.up e (hp.mem_iff.mp he), sp := sorted_pl t.nd, all := fun x hx y hy => (t.all x hx y hy).mono fun _ _ k => adj_perm hp.symm k }
theorem seq_inv {f g : SM} {ρ ρ2 : Rho} (h : seqM f g ρ = some (.nx, ρ2)) : ∃ ρ1, f ρ = some (.nx, ρ1) ∧ g ρ1 = some (.nx, ρ2) := by
  unfold seqM at h
  split at h
  · rename_i ρ1 e
    exact ⟨ρ1, e, h⟩
  · rename_i hn
    exact absurd h (hn ρ2)
theorem law_web_gen {n most : Nat} (hn2 : 2 ≤ n) (hn6 : n ≤ 6) (hm : most ≤ 9) (a b c : Int) : ∃ (P : List Str) (E : List (Str × Str)) (a' b' c' : Int), g__law_web (bw a b c) [.int (n : Nat), .int (most : Nat)] = some ((wL P E, false), bw a' b' c') ∧ Good P E ∧ P.length ≤ n ∧ E.length ≤ max most (P.length - 1) := by
  obtain ⟨P, a1, b1, c1, often, h2, hPn, hn, hs, e⟩ := web_start most hn2 hn6 a b c
  have h6 : P.length ≤ 6 := by omega
  obtain ⟨ρ1, e1, e2⟩ := seq_inv e
  suffices h : Go (m__law_web (startI 9 (bw a b c) [.int (n : Nat), .int (most : Nat)])) fun x => ∃ (E : List (Str × Str)) (a' b' c' : Int), outI (some x) = some ((wL P E, false), bw a' b' c') ∧ Good P E ∧ E.length ≤ max most (P.length - 1) by
    obtain ⟨x, e, E, a', b', c', e2, q, q2⟩ := h
    exact ⟨P, E, a', b', c', fnI_of rfl ⟨x, e, e2⟩, q, hPn, q2⟩
  unfold m__law_web
  refine go_seq (go_of e1 (go_seq (go_of e2 (go_seq (web_tree h2 h6 hs fun a b c E s6 n6 t => go_seq (web_more hm h6 (t.ex h2 h6) fun a b c E s7 s8 t => ?_))))))
  have hp := List.mergeSort_perm E ple
  have p1 := sort_P (l := E) (by have := t.e9; simp only [lim_val]; omega)
  have p2 := tup_S (l := tP (E.mergeSort ple)) (by have := t.e9; simp only [tP, List.length_map, hp.length_eq, lim_val]; omega)
  exact ⟨(.rt (wL P (E.mergeSort ple), false), WS n most a b c P E often s6 s7 s8), by simp [WS, rget, p1, p2], E.mergeSort ple, a, b, c, rfl, t.good h2 h6 hn hs, by rw [hp.length_eq]; exact t.em⟩
theorem law_web_eq (a b c : Int) : ∃ (P : List Str) (E : List (Str × Str)) (a' b' c' : Int), g__law_web (bw a b c) [.int 6, .int 9] = some ((wL P E, false), bw a' b' c') ∧ Good P E := by
  obtain ⟨P, E, a', b', c', h, g, _⟩ := law_web_gen (n := 6) (most := 9) (by omega) (by omega) (by omega) a b c
  exact ⟨P, E, a', b', c', h, g⟩
end Rv
end

section
set_option Elab.async false
set_option autoImplicit false
set_option linter.all false
set_option maxRecDepth 100000
set_option maxHeartbeats 400000
namespace Rv
open PySem PySem.Spec L2 LamX NdefX
open PyProof.Rows hiding St
/-! ### all ways between two places -/
def WB (P : List Str) (E : List (Str × Str)) (a b : Str) (found line : List (List Str)) (s5 s6 : Option (T × Own)) : Rho :=
  [some (wV P E, .fr), some (.str a, .fr), some (.str b, .fr), some (.lst (tW found), .ow), some (.lst (tW line), .ow), s5, s6]
theorem len_wt : ∀ {l : List (List Str)}, l.length ≤ wt l
  | [] => Nat.le_refl _
  | w :: l => by
    have h := len_wt (l := l)
    have : 0 < 7 ^ (7 - w.length) := Nat.pos_of_ne_zero (by simp)
    simp only [wt, List.map_cons, List.sum_cons, List.length_cons] at h ⊢
    omega
theorem dOkL_K {n : Nat} : ∀ {l : List (List Str)}, dOkL (n + 2) ((tW l).map kT) = true
  | [] => rfl
  | x :: l => by
    have := dOkL_K (n := n) (l := l)
    simp only [tW, List.map_cons] at this ⊢
    unfold dOkL
    rw [this]
    have h := dOk_way (n := n) (w := x)
    have e : dOk (n + 2) (kT (wy x)) = (dOk (n + 1) (.int (tS x).length) && (dOk (n + 1) (wy x) && true)) := rfl
    rw [e, h]
    rfl
theorem alike_K {u v : List Str} : PySem.W.alike (pd (kT (wy u))) (pd (kT (wy v))) = true := by
  have h := alike_way (u := u) (v := v)
  simp only [kT, wy, pd, pdL, PySem.W.alike, PySem.W.alikeAll] at h ⊢
  simp [h]
theorem sortK_W {ws : List (List Str)} (hl : ws.length ≤ lim) : gSortK [.lst (tW ws)] = some (.lst (tW (ws.mergeSort fun u v => tleK (wy u) (wy v))), true) := by
  have h0 : (tW ws).all tupStrs = true := by
    simp only [List.all_eq_true, tW, List.mem_map]
    rintro _ ⟨u, _, rfl⟩
    simp [tupStrs, tS, isStrT]
  have h1 : srtOk ((tW ws).map kT) = true := by
    unfold srtOk
    simp only [Bool.and_eq_true, Bool.or_eq_true]
    refine ⟨⟨dOkL_K, ?_⟩, .inl ?_⟩
    · simp only [List.all_eq_true, tW, List.mem_map]
      rintro _ ⟨_, ⟨u, _, rfl⟩, rfl⟩ _ ⟨_, ⟨v, _, rfl⟩, rfl⟩
      exact alike_K
    · simp only [List.all_eq_true, tW, List.mem_map]
      rintro _ ⟨_, ⟨u, hu, rfl⟩, rfl⟩
      rfl
  simp only [gSortK]
  rw [if_pos ⟨h0, h1, by simpa [tW] using hl⟩]
  congr 3
  exact (List.map_mergeSort (f := wy) (r := fun u v => tleK (wy u) (wy v)) (s := tleK) fun a _ b _ => rfl).symm
theorem star_eq {v : List Str} {y : Str} {ρ : Rho} {i j : Nat} {f g : M} (h1 : f ρ = some ((wy v, false), ρ)) (h2 : g ρ = some ((.str y, false), ρ)) (hl : v.length ≤ 1000) : starM f g ρ = some ((wy (v ++ [y]), false), ρ) := by
  simp only [starM, h1, h2, wy]
  rw [if_pos (by simp only [tS, List.length_map, lim_val]; omega)]
  simp [tS]
theorem step1_len {P : List Str} {E : List (Str × Str)} {a x : Str} {v : List Str} (hE : EdgesIn E P) (hP : P.length ≤ 6) (hn : E.Nodup) (ha : ∀ e ∈ E, (e.2, e.1) ∉ E) (hv : Path E a v x) : (step1 E v).length ≤ 6 := by
  unfold step1
  rw [List.length_map]
  refine Nat.le_trans (List.length_filter_le _ _) (Nat.le_trans (nodup_le (nbrs_nd hn ha) fun y hy => ?_) hP)
  exact (hE.adj (mem_nbrs.mp hy)).2
theorem ways_between_eq {P : List Str} {E : List (Str × Str)} {a b : Str} (hE : EdgesIn E P) (hP : P.length ≤ 6) (hn : E.Nodup) (hs : ∀ e ∈ E, (e.2, e.1) ∉ E) (h9 : E.length ≤ 9) (ha : a ∈ P) (hr : Reach E a b) :
    ∃ ord, g_ways_between [wV P E, .str a, .str b] = some (.lst (tW ord), true) ∧ ord ≠ [] ∧ ord.length ≤ 117649 ∧ ∀ w, w ∈ ord ↔ Path E a w b := by
  suffices h : Go (m_ways_between (start0 7 [wV P E, .str a, .str b])) fun x => ∃ ord, outR (some x) = some (.lst (tW ord), true) ∧ ord ≠ [] ∧ ord.length ≤ 117649 ∧ ∀ w, w ∈ ord ↔ Path E a w b by
    obtain ⟨x, e, ord, e2, q⟩ := h
    exact ⟨ord, fnG_of rfl ⟨x, e, e2⟩, q⟩
  unfold m_ways_between
  refine go_seq ⟨(.nx, WB P E a b [] [[a]] none none), by simp [parM, rget, WB, tS], ?_⟩
  refine go_seq ?_
  refine go_while (I := fun n ρ => ∃ found line s5 s6, ρ = WB P E a b found line s5 s6 ∧ Nio s5 ∧ Nio s6 ∧ WI E a b found line ∧ n = wt line ∧ found.length + wt line ≤ 117649) ?_ 1000000 (wt [[a]]) _ ?_ ⟨[], [[a]], none, none, rfl, nio_none, nio_none, WI.start, rfl, by simp [wt]⟩
  · rintro n ρ ⟨found, line, s5, s6, rfl, n5, n6, hi, rfl, hl⟩
    refine ⟨!decide (line = []), WB P E a b found line s5 s6, by simp [WB, rget, ne_nilW], fun hb => ?_, fun hb => ?_⟩
    · have hL : line = [] := by simpa using hb
      subst hL
      have hfl : found.length ≤ 117649 := by omega
      have hp := List.mergeSort_perm found fun u v => tleK (wy u) (wy v)
      have hsk := sortK_W (ws := found) (by simp only [lim_val]; omega)
      refine go_ret ⟨((.lst (tW (found.mergeSort fun u v => tleK (wy u) (wy v))), true), WB P E a b found [] s5 s6), by simp only [WB, primM, opsM, rget, List.getD_cons_zero, List.getD_cons_succ, resolves, resolve, Option.map_some, hsk], _, rfl, ?_, ?_, ?_⟩
      · intro z
        obtain ⟨w, hw⟩ := hr.path
        rcases hi.all w hw with k | ⟨v, hv, _⟩
        · have := hp.mem_iff.mpr k
          rw [z] at this
          cases this
        · cases hv
      · rw [hp.length_eq]; exact hfl
      · refine fun w => ⟨fun hw => hi.found1 w (hp.mem_iff.mp hw), fun hw => ?_⟩
        rcases hi.all w hw with k | ⟨v, hv, _⟩
        · exact hp.mem_iff.mpr k
        · cases hv
    · have hL : line ≠ [] := by simpa using hb
      obtain ⟨L, v, rfl⟩ : ∃ L x, line = L ++ [x] := ⟨_, _, (List.dropLast_concat_getLast hL).symm⟩
      obtain ⟨x, hv⟩ := hi.line1 v (by simp)
      have hvl := hv.len hE ha
      have hw1 : wt (L ++ [v]) = wt L + wt [v] := wt_app
      have hw2 : 1 ≤ wt [v] := Nat.le_trans (by simp) (len_wt (l := [v]))
      have hLl := len_wt (l := L)
      refine go_seq ⟨(.nx, WB P E a b found L (some (wy v, .fr)) s6), ?_, ?_⟩
      · have e : mutTM "list" 4 [] gPop (WB P E a b found (L ++ [v]) s5 s6) = some ((wy v, false), WB P E a b found L s5 s6) := by
          simp [WB, mutTM, mutM, ownM, rget, tyT, valsR, tW, pop_end]
        rw [asg_nio (s := s5) e rfl n5 (by simp [WB])]
        rfl
      have hix : gIx [wy v, .int (-1)] = some (.str x, false) := by rw [ix_last hv.ne, hv.lastOf]
      refine go_if (b := decide (x = b)) (ρ1 := WB P E a b found L (some (wy v, .fr)) s6) (by simp [WB, rget, hix, eq_str]) ?_
      by_cases hx : x = b
      · subst hx
        simp only [decide_true, cond_true]
        have hfl : found.length < lim := by simp only [lim_val]; omega
        refine ⟨(.nx, WB P E a x (found ++ [v]) L (some (wy v, .fr)) s6), by simp [WB, mutTM, mutM, ownM, rget, tyT, valsR, gAppend, hfl], wt L, by omega, found ++ [v], L, _, s6, rfl, nio_fr, n6, hi.hit hv, rfl, by rw [List.length_append]; simp only [List.length_cons, List.length_nil]; omega⟩
      · simp only [hx, decide_false, cond_false]
        have hsl := step1_len hE hP hn hs hv
        have hws := wt_step (E := E) (v := v) (by omega) hsl
        have c1 := comp_map (ρ := WB P E a b found L (some (wy v, .fr)) s6) (ρ1 := WB P E a b found L (some (wy v, .fr)) s6) (ρw := WB P E a b found L (some (wy v, .fr)) none)
          (src := srcM (storeM [.val (storeM [.val (varM 0)] (gProp 0 g_Web_ties)), .val (primM [.pk 5, .val (conM (.int (-1)))] gIx)] g_beside)) (tg := .nm 6) (cnd := primM [.pk 6, .pk 5] (gIn true)) (elt := starM (varM 5) (varM 6)) (vs := [6]) (F := T.str) (G := fun y => wy (v ++ [y])) (l := nbrs E x) (p := fun y => !decide (y ∈ v))
          (src_ll (b := true) (by simp [WB, rget, hix, ties_eq, beside_eq (p := x) (t := wE E) (E := E) (.inr ⟨_, rfl⟩) (lim_ge (by omega))])) (by rw [wipe_nio (s := s6) rfl n6 (by simp [WB])]; rfl) (lim_ge (by have := nodup_le (nbrs_nd (x := x) hn hs) (m := P) fun y hy => (hE.adj (mem_nbrs.mp hy)).2; omega))
          (fun y hy => ⟨WB P E a b found L (some (wy v, .fr)) (some (.str y, .fr)), rfl, by
            have h1 := in_S (neg := true) (k := false) (x := y) (l := v)
            have h2 : v.length < lim := by simp only [lim_val]; omega
            by_cases hy : y ∈ v <;> simp [turnM, WB, rget, h1, h2, hy, wipeR, wipe1R, starM, tS]⟩)
        have ho : step1 E v = ((nbrs E x).filter fun y => !decide (y ∈ v)).map fun y => v ++ [y] := by unfold step1; rw [hv.lastOf]
        have c2 : compM (srcM (storeM [.val (storeM [.val (varM 0)] (gProp 0 g_Web_ties)), .val (primM [.pk 5, .val (conM (.int (-1)))] gIx)] g_beside)) (.nm 6) (primM [.pk 6, .pk 5] (gIn true)) (starM (varM 5) (varM 6)) [6] (WB P E a b found L (some (wy v, .fr)) s6) = some ((.lst (tW (step1 E v)), true), WB P E a b found L (some (wy v, .fr)) none) := by
          rw [c1, ho]
          simp [tW]
        have hex : (tW L).length + (tW (step1 E v)).length ≤ lim := by simp only [tW, List.length_map, lim_val]; omega
        refine ⟨(.nx, WB P E a b found (L ++ step1 E v) (some (wy v, .fr)) none), ?_, wt (L ++ step1 E v), by rw [wt_app]; omega, found, L ++ step1 E v, _, none, rfl, nio_fr, nio_none, hi.miss hv hx, rfl, by rw [wt_app]; omega⟩
        have e3 : mutTM "list" 4 [.val (compM (srcM (storeM [.val (storeM [.val (varM 0)] (gProp 0 g_Web_ties)), .val (primM [.pk 5, .val (conM (.int (-1)))] gIx)] g_beside)) (.nm 6) (primM [.pk 6, .pk 5] (gIn true)) (starM (varM 5) (varM 6)) [6])] gExtend (WB P E a b found L (some (wy v, .fr)) s6) = some ((.non, false), WB P E a b found (L ++ step1 E v) (some (wy v, .fr)) none) := by
          have e4 : gExtend (.lst (tW L)) [(.lst (tW (step1 E v)), true)] = some (.lst (tW (L ++ step1 E v)), .non) := by
            simp only [gExtend]
            rw [if_pos hex]
            simp [tW]
          simp only [mutTM, mutM, opsM]
          rw [c2]
          simp [WB, ownM, rget, tyT, valsR, e4]
        unfold dropM
        rw [e3]
  · simp [wt]
end Rv
end

section
set_option Elab.async false
set_option autoImplicit false
set_option linter.all false
set_option maxRecDepth 100000
set_option maxHeartbeats 400000
namespace Rv
open PySem PySem.Spec L2 LamX NdefX
open PyProof.Rows hiding St
/-! ### comprehensions of two storeys -/
theorem turn2_all {β : Type} {src1 : SrcM} {tg1 : Tg} {cond1 elt : M} {vs vs1 : List Nat} {ρa ρb ρv ρw : Rho} {F G : β → T} {l : List β} (h1 : src1 ρa = some (l.map F, ρb)) (h2 : wipeR vs1 ρb = some ρv) (h3 : ∀ y ∈ l, Go (tgM tg1 (F y) ρv) fun ρc => turnM cond1 elt vs1 ρc = some ([G y], ρv)) (h4 : wipeR vs ρv = some ρw) :
    turn2M yesM src1 tg1 cond1 elt vs vs1 ρa = some (l.map G, ρw) := by
  have := compLoop_map (turn := turnM cond1 elt vs1) (f := fun y => [G y]) h3
  rw [← List.map_eq_flatMap] at this
  unfold turn2M
  simp only [yesM, h1, h2, this, h4]
theorem comp2_all {β γ : Type} {src : SrcM} {tg : Tg} {src1 : SrcM} {tg1 : Tg} {cond1 elt : M} {vs vs1 : List Nat} {ρ ρ1 ρw : Rho} {F : β → T} {l : List β} {G : γ → T} {g : β → List γ} (h1 : src ρ = some (l.map F, ρ1)) (h2 : wipeR vs ρ1 = some ρw) (h3 : ∀ x ∈ l, Go (tgM tg (F x) ρw) fun ρa => turn2M yesM src1 tg1 cond1 elt vs vs1 ρa = some ((g x).map G, ρw)) (hl : (l.flatMap g).length ≤ lim) :
    comp2M src tg yesM src1 tg1 cond1 elt vs vs1 ρ = some ((.lst ((l.flatMap g).map G), true), ρw) := by
  have e : (l.flatMap fun x => (g x).map G) = (l.flatMap g).map G := by rw [List.map_flatMap]
  have := compG_map (turn := turn2M yesM src1 tg1 cond1 elt vs vs1) (f := fun x => (g x).map G) h1 h2 h3 (by rw [e, List.length_map]; exact hl)
  rw [e] at this
  exact this
/-! ### pairs of places -/
theorem enumL_S : ∀ {P : List Str} {n : Nat}, enumL n (tS P) = (P.zipIdx n).map fun x => .tup false [.int (x.2 : Nat), .str x.1]
  | [], n => rfl
  | x :: P, n => by
    have := enumL_S (P := P) (n := n + 1)
    simp only [tS, List.map_cons, enumL, List.zipIdx_cons] at this ⊢
    rw [this]
theorem slL_at {l : List T} {k : Bool} {i : Nat} (h : i < l.length) : gSlL [.tup k l, .int ((i : Int) + 1)] = some (.tup false (l.drop (i + 1)), false) := by
  have h1 : HT.sIx l.length 0 (some ((i : Int) + 1)) = i + 1 := by
    have := HT.sIx_nat l.length 0 (i + 1)
    rw [show ((i : Int) + 1) = ((i + 1 : Nat) : Int) from by omega, this]
    omega
  have h2 : HT.sIx l.length l.length none = l.length := rfl
  simp only [gSlL, gCut, whole, cutG, h1, h2]
  rw [if_neg (by simp)]
  congr 3
  rw [List.take_of_length_le (by rw [List.length_drop]; omega)]
theorem pairs_len {P : List Str} (hP : P.length ≤ 6) : (pairs P).length ≤ 36 := by
  unfold pairs
  refine Nat.le_trans (fm_len (n := 6) fun x _ => by rw [List.length_map, List.length_drop]; omega) ?_
  rw [List.length_zipIdx]
  omega
theorem pairs_eq {P : List Str} {E : List (Str × Str)} (hP : P.length ≤ 6) : g_pairs_of [wV P E] = some (.lst (tP (pairs P)), true) := by
  have hen : enumM (storeM [.val (varM 0)] (gProp 0 g_Web_places)) [some (wV P E, .fr), none, none, none] = some ((P.zipIdx).map fun x => .tup false [.int (x.2 : Nat), .str x.1], [some (wV P E, .fr), none, none, none]) := by
    unfold enumM
    simp only [storeM, opsM, varM, letgo, rget, List.getD_cons_zero, vals, places_eq]
    rw [enumL_S]
  have hz : ∀ x ∈ P.zipIdx, x.2 < P.length := fun x hx => by
    obtain ⟨y, i⟩ := x
    have := List.mk_mem_zipIdx_iff_getElem?.mp hx
    exact (List.getElem?_eq_some_iff.mp this).1
  refine fnG_of rfl (go_ret (go_of (comp2_all (ρw := [some (wV P E, .fr), none, none, none]) (l := P.zipIdx) (G := pr) (g := fun x => (P.drop (x.2 + 1)).map fun y => (x.1, y)) hen rfl (fun x hx => ?_) (by have := pairs_len hP; simp only [pairs] at this; simp only [lim_val]; omega)) ?_))
  · have h1 := slL_at (l := tS P) (k := true) (i := x.2) (by rw [tS, List.length_map]; exact hz x hx)
    refine ⟨[some (wV P E, .fr), some (.int (x.2 : Nat), .fr), some (.str x.1, .fr), none], rfl, ?_⟩
    rw [List.map_map]
    refine turn2_all (ρb := [some (wV P E, .fr), some (.int (x.2 : Nat), .fr), some (.str x.1, .fr), none]) (ρv := [some (wV P E, .fr), some (.int (x.2 : Nat), .fr), some (.str x.1, .fr), none]) (F := T.str) (src_seq (t := .tup false (tS (P.drop (x.2 + 1)))) (.inr ⟨_, rfl⟩) ?_) rfl (fun y hy => ⟨[some (wV P E, .fr), some (.int (x.2 : Nat), .fr), some (.str x.1, .fr), some (.str y, .fr)], rfl, ?_⟩) rfl
    · simp only [primM, opsM, storeM, varM, letgo, rget, List.getD_cons_zero, List.getD_cons_succ, vals, places_eq, conM, resolves, resolve, Option.map_some, add_i, h1]
      simp [tS]
    · simp [turnM, rget, wipeR, wipe1R]
  · simp [outR, pairs, tP]
/-! ### the places between, way by way -/
theorem idx_S : ∀ {P : List Str} {z : Str}, z ∈ P → Rv.idxOf (tS P) (.str z) = some (P.idxOf z)
  | [], z, h => nomatch h
  | x :: P, z, h => by
    simp only [tS, List.map_cons, Rv.idxOf, teq_str, List.idxOf_cons]
    by_cases q : x = z
    · subst q
      simp
    · have := idx_S (P := P) (z := z) ((List.mem_cons.mp h).resolve_left fun e => q e.symm)
      simp only [tS] at this
      rw [this, beq_false_of_ne q, decide_eq_false q]
      rfl
theorem index_S {P : List Str} {z : Str} (h : z ∈ P) : gIndex [wP P, .str z] = some (.int (P.idxOf z : Nat), false) := by
  simp only [gIndex]
  rw [if_pos ⟨dOkL_S, rfl⟩, idx_S h]
  rfl
theorem slC_way {w : List Str} (h : w ≠ []) : gSlC 1 (-1) [wy w] = some (.tup false (tS w.tail.dropLast), false) := by
  obtain ⟨a, t, rfl⟩ := List.exists_cons_of_ne_nil h
  have h1 : HT.sIx (t.length + 1) 0 (some 1) = 1 := by
    have := HT.sIx_nat (t.length + 1) 0 1
    rw [show (1 : Int) = ((1 : Nat) : Int) from rfl, this]
    omega
  have h2 : HT.sIx (t.length + 1) (t.length + 1) (some (-1)) = t.length := by
    simp only [HT.sIx]
    rw [if_pos (by omega)]
    omega
  simp only [gSlC, gCut, wy, whole, cutG, tS, List.length_map, List.length_cons, h1, h2]
  rw [if_neg (by simp)]
  congr 3
  rw [List.map_cons, List.drop_succ_cons, List.drop_zero, List.tail_cons, List.dropLast_eq_take, List.map_take]
abbrev nT (l : List Nat) : List T := l.map fun i => T.int (i : Nat)
abbrev spT (sp : List Nat) : T := .tup true (nT sp)
abbrev rowT (r : List (List Nat)) : T := .lst (r.map spT)
abbrev rowsT (rows : List (List (List Nat))) : T := .lst (rows.map rowT)
def IL (P : List Str) (E : List (Str × Str)) (rows : List (List (List Nat))) (s2 s3 s4 s5 : Option (T × Own)) : Rho :=
  [some (wV P E, .fr), some (rowsT rows, .ow), s2, s3, s4, s5]
theorem spots_eq {P : List Str} {E : List (Str × Str)} {rows : List (List (List Nat))} {w : List Str} {s2 s3 : Option (T × Own)} (hw : w ≠ []) (hl : w.length ≤ 6) (hP : ∀ z ∈ w, z ∈ P) :
    primM [.val (compM (srcM (primM [.pk 4] (gSlC 1 (-1)))) (.nm 5) yesM (indexM (storeM [.val (varM 0)] (gProp 0 g_Web_places)) (.pk 5)) [5])] gTupOf (IL P E rows s2 s3 (some (wy w, .fr)) none) = some ((spT (inner P w), false), IL P E rows s2 s3 (some (wy w, .fr)) none) := by
  have hin : w.tail.dropLast.length ≤ 6 := Nat.le_trans (List.dropLast_sublist _).length_le (Nat.le_trans (List.tail_sublist w).length_le hl)
  have c1 := comp_all (ρ := IL P E rows s2 s3 (some (wy w, .fr)) none) (ρ1 := IL P E rows s2 s3 (some (wy w, .fr)) none) (ρw := IL P E rows s2 s3 (some (wy w, .fr)) none)
    (src := srcM (primM [.pk 4] (gSlC 1 (-1)))) (tg := .nm 5) (cnd := yesM) (elt := indexM (storeM [.val (varM 0)] (gProp 0 g_Web_places)) (.pk 5)) (vs := [5]) (F := T.str) (G := fun z => T.int (P.idxOf z : Nat)) (l := w.tail.dropLast)
    (src_seq (t := .tup false (tS w.tail.dropLast)) (.inr ⟨_, rfl⟩) (by simp [IL, rget, slC_way hw])) rfl (lim_ge (by omega))
    (fun z hz => ⟨IL P E rows s2 s3 (some (wy w, .fr)) (some (.str z, .fr)), rfl, by
      have h := index_S (hP z (List.mem_of_mem_tail (List.dropLast_subset _ hz)))
      simp only [turnM, yesM, indexM, storeM, opsM, varM, letgo, IL, rget, List.getD_cons_zero, List.getD_cons_succ, vals, places_eq, resolves, resolve, Option.map_some, h]
      simp [wipeR, wipe1R, rget]⟩)
  refine prim1 c1 ?_
  rw [tup_S (by simp only [List.length_map, lim_val]; omega)]
  have e : nT (inner P w) = w.tail.dropLast.map fun z => T.int (P.idxOf z : Nat) := by
    simp only [inner, nT, List.map_map]
    rfl
  show some (T.tup true _, false) = some (T.tup true (nT (inner P w)), false)
  rw [e]
theorem row_eq {P : List Str} {E : List (Str × Str)} {rows : List (List (List Nat))} {x y : Str} {ord : List (List Str)} (ew : g_ways_between [wV P E, .str x, .str y] = some (.lst (tW ord), true)) (ho : ord.length ≤ 117649) (hw : ∀ w ∈ ord, w ≠ [] ∧ w.length ≤ 6 ∧ ∀ z ∈ w, z ∈ P) :
    compM (srcM (storeM [.val (varM 0), .val (varM 2), .val (varM 3)] g_ways_between)) (.nm 4) yesM (primM [.val (compM (srcM (primM [.pk 4] (gSlC 1 (-1)))) (.nm 5) yesM (indexM (storeM [.val (varM 0)] (gProp 0 g_Web_places)) (.pk 5)) [5])] gTupOf) [4] (IL P E rows (some (.str x, .fr)) (some (.str y, .fr)) none none) = some ((rowT (ord.map (inner P)), true), IL P E rows (some (.str x, .fr)) (some (.str y, .fr)) none none) := by
  have c1 := comp_all (ρ := IL P E rows (some (.str x, .fr)) (some (.str y, .fr)) none none) (ρ1 := IL P E rows (some (.str x, .fr)) (some (.str y, .fr)) none none) (ρw := IL P E rows (some (.str x, .fr)) (some (.str y, .fr)) none none)
    (src := srcM (storeM [.val (varM 0), .val (varM 2), .val (varM 3)] g_ways_between)) (tg := .nm 4) (cnd := yesM) (elt := primM [.val (compM (srcM (primM [.pk 4] (gSlC 1 (-1)))) (.nm 5) yesM (indexM (storeM [.val (varM 0)] (gProp 0 g_Web_places)) (.pk 5)) [5])] gTupOf) (vs := [4]) (F := wy) (G := fun w => spT (inner P w)) (l := ord)
    (src_ll (b := true) (by simp [IL, rget, ew])) rfl (by simp only [lim_val]; omega)
    (fun w hw' => ⟨IL P E rows (some (.str x, .fr)) (some (.str y, .fr)) (some (wy w, .fr)) none, rfl, by
      obtain ⟨h1, h2, h3⟩ := hw w hw'
      have h := spots_eq (E := E) (rows := rows) (s2 := some (.str x, .fr)) (s3 := some (.str y, .fr)) h1 h2 h3
      simp only [turnM, yesM, h]
      simp [IL, wipeR, wipe1R, rget]⟩)
  rw [c1]
  simp
theorem inner_lists_eq {P : List Str} {E : List (Str × Str)} (hE : EdgesIn E P) (hP : P.length ≤ 6) (hn : E.Nodup) (hs : ∀ e ∈ E, (e.2, e.1) ∉ E) (h9 : E.length ≤ 9) (hr : ∀ x ∈ P, ∀ y ∈ P, Reach E x y) :
    ∃ rows, g_inner_lists [wV P E] = some (rowsT rows, true) ∧ RowsOk P E rows ∧ rows.length ≤ 36 ∧ ∀ r ∈ rows, r.length ≤ 117649 := by
  suffices h : Go (m_inner_lists (start0 6 [wV P E])) fun x => ∃ rows, outR (some x) = some (rowsT rows, true) ∧ RowsOk P E rows ∧ rows.length ≤ 36 ∧ ∀ r ∈ rows, r.length ≤ 117649 by
    obtain ⟨x, e, rows, e2, q⟩ := h
    exact ⟨rows, fnG_of rfl ⟨x, e, e2⟩, q⟩
  have hpl := pairs_len hP
  unfold m_inner_lists
  refine go_seq ⟨(.nx, IL P E [] none none none none), by simp [IL, rget], ?_⟩
  refine go_seq (go_for (ts := (pairs P).map pr) (ρ1 := IL P E [] none none none none) (src_ll (b := true) (by simp [IL, rget, pairs_eq hP])) ?_)
  refine go_loopM (J := fun done rest ρ => ∃ rows s2 s3, ρ = IL P E rows s2 s3 none none ∧ Nio s2 ∧ Nio s3 ∧ rows.length = done.length ∧ (∀ r ∈ rows, r ≠ [] ∧ ∀ sp ∈ r, ∃ x y w, x ∈ P ∧ Path E x w y ∧ sp = inner P w) ∧ (∀ e ∈ done, ∃ r ∈ rows, ∀ sp ∈ r, ∃ w, Path E e.1 w e.2 ∧ sp = inner P w) ∧ (∀ r ∈ rows, ∃ e ∈ pairs P, ∀ w, Path E e.1 w e.2 → inner P w ∈ r) ∧ ∀ r ∈ rows, r.length ≤ 117649) ?_ ?_ ⟨[], none, none, rfl, nio_none, nio_none, rfl, by simp, by simp, by simp, by simp⟩
  · rintro ρ ⟨rows, s2, s3, rfl, _, _, h1, h2, h3, h5, h4⟩
    exact ⟨(.rt (rowsT rows, true), _), rfl, rows, rfl, ⟨h2, h3, h5⟩, by omega, h4⟩
  · rintro done e rest ρ hl ⟨rows, s2, s3, rfl, n2, n3, h1, h2, h3, h5, h4⟩
    have he : e ∈ pairs P := by rw [hl]; simp
    obtain ⟨hx, hy⟩ := pairs_in he
    have hdl : done.length < 36 := by
      have := congrArg List.length hl
      simp only [List.length_append, List.length_cons] at this
      omega
    refine ⟨IL P E rows (some (.str e.1, .fr)) (some (.str e.2, .fr)) none none, ?_, ?_⟩
    · simp only [tgM, pr, setAll]
      rw [setM_nio (s := s2) rfl n2 (by simp [IL])]
      simp only
      rw [setM_nio (s := s3) (by simp [IL, rget]) n3 (by simp [IL])]
      rfl
    obtain ⟨ord, ew, o1, o2, o3⟩ := ways_between_eq (a := e.1) (b := e.2) hE hP hn hs h9 hx (hr _ hx _ hy)
    have c1 := row_eq (rows := rows) ew o2 fun w hw => ⟨((o3 w).mp hw).ne, Nat.le_trans (((o3 w).mp hw).len hE hx) hP, ((o3 w).mp hw).inP hE hx⟩
    refine ⟨(.nx, IL P E (rows ++ [ord.map (inner P)]) (some (.str e.1, .fr)) (some (.str e.2, .fr)) none none), ?_, rows ++ [ord.map (inner P)], _, _, rfl, nio_fr, nio_fr, by simp [h1], ?_, ?_, ?_, ?_⟩
    · have hg : gAppend (rowsT rows) [(rowT (ord.map (inner P)), true)] = some (rowsT (rows ++ [ord.map (inner P)]), .non) := by
        simp only [gAppend]
        rw [if_pos (by simp only [List.length_map, lim_val]; omega)]
        simp
      have e4 : mutTM "list" 1 [.val (compM (srcM (storeM [.val (varM 0), .val (varM 2), .val (varM 3)] g_ways_between)) (.nm 4) yesM (primM [.val (compM (srcM (primM [.pk 4] (gSlC 1 (-1)))) (.nm 5) yesM (indexM (storeM [.val (varM 0)] (gProp 0 g_Web_places)) (.pk 5)) [5])] gTupOf) [4])] gAppend (IL P E rows (some (.str e.1, .fr)) (some (.str e.2, .fr)) none none) = some ((.non, false), IL P E (rows ++ [ord.map (inner P)]) (some (.str e.1, .fr)) (some (.str e.2, .fr)) none none) := by
        simp only [mutTM, mutM, opsM]
        rw [c1]
        simp [IL, ownM, rget, tyT, valsR, hg]
      unfold dropM
      rw [e4]
    · intro r hr'
      rcases List.mem_append.mp hr' with k | k
      · exact h2 r k
      · rw [List.mem_singleton.mp k]
        refine ⟨by simpa using o1, fun sp hsp => ?_⟩
        obtain ⟨w, hw, rfl⟩ := List.mem_map.mp hsp
        exact ⟨e.1, e.2, w, hx, (o3 w).mp hw, rfl⟩
    · intro e' he'
      rcases List.mem_append.mp he' with k | k
      · obtain ⟨r, hr', q⟩ := h3 e' k
        exact ⟨r, List.mem_append_left _ hr', q⟩
      · rw [List.mem_singleton.mp k]
        refine ⟨ord.map (inner P), by simp, fun sp hsp => ?_⟩
        obtain ⟨w, hw, rfl⟩ := List.mem_map.mp hsp
        exact ⟨w, (o3 w).mp hw, rfl⟩
    · intro r hr'
      rcases List.mem_append.mp hr' with k | k
      · exact h5 r k
      · rw [List.mem_singleton.mp k]
        exact ⟨e, he, fun w hw => List.mem_map.mpr ⟨w, (o3 w).mpr hw, rfl⟩⟩
    · intro r hr'
      rcases List.mem_append.mp hr' with k | k
      · exact h4 r k
      · rw [List.mem_singleton.mp k, List.length_map]; exact o2
end Rv
end

section
set_option Elab.async false
set_option autoImplicit false
set_option linter.all false
set_option maxRecDepth 100000
set_option maxHeartbeats 400000
namespace Rv
open PySem PySem.Spec L2 LamX NdefX
open PyProof.Rows hiding St
/-! ### plain colourings -/
abbrev ptT (p : List Nat) : T := .tup false (nT p)
abbrev ptK (k : Bool) (p : List Nat) : T := .tup k (nT p)
abbrev cT (x : List Nat × Nat) : T := .tup false [ptT x.1, .int (x.2 : Nat)]
def PCs (n most : Nat) (l : List (List Nat × Nat)) (o : Own) (s3 s4 s5 s6 : Option (T × Own)) : Rho :=
  [some (.int (n : Nat), .fr), some (.int (most : Nat), .fr), some (.lst (l.map cT), o), s3, s4, s5, s6]
theorem min2_eq {u most : Nat} : gMin2 [.int ((u : Int) + 1), .int (most : Nat)] = some (.int ((min (u + 1) most : Nat) : Int), false) := by
  simp only [gMin2]
  congr 3
  split <;> omega
theorem max2_eq {u c : Nat} : gMax2 [.int (u : Nat), .int ((c : Int) + 1)] = some (.int ((max u (c + 1) : Nat) : Int), false) := by
  simp only [gMax2]
  congr 3
  split <;> omega
theorem rng_r62 {n : Nat} (h : n ≤ 1000) : r62 (n : Int) = true := by unfold r62; simp only [Bool.and_eq_true, decide_eq_true_eq]; omega
theorem plain_turn {n most : Nat} {l : List (List Nat × Nat)} {s3 : Option (T × Own)} {x : List Nat × Nat} (hm : most ≤ 100) (hx : x.1.length ≤ 100) :
    turn2M yesM (rng1M (.val (primM [.val (primM [.pk 5, .val (conM (.int 1))] gAdd), .pk 1] gMin2))) (.nm 6) yesM (storeM [.val (starM (varM 4) (varM 6)), .val (primM [.pk 5, .val (primM [.pk 6, .val (conM (.int 1))] gAdd)] gMax2)] gMkT) [4, 5, 6] [6] (PCs n most l .fr s3 (some (ptT x.1, .fr)) (some (.int (x.2 : Nat), .fr)) none)
      = some (((List.range (min (x.2 + 1) most)).map fun c => (x.1 ++ [c], max x.2 (c + 1))).map cT, PCs n most l .fr s3 none none none) := by
  rw [List.map_map]
  have hr := rng_r62 (n := min (x.2 + 1) most) (by omega)
  refine turn2_all (ρb := PCs n most l .fr s3 (some (ptT x.1, .fr)) (some (.int (x.2 : Nat), .fr)) none) (ρv := PCs n most l .fr s3 (some (ptT x.1, .fr)) (some (.int (x.2 : Nat), .fr)) none) (F := fun c : Nat => T.int (0 + (c : Nat))) ?_ rfl (fun c hc => ⟨PCs n most l .fr s3 (some (ptT x.1, .fr)) (some (.int (x.2 : Nat), .fr)) (some (.int (0 + (c : Nat)), .fr)), rfl, ?_⟩) rfl
  · have e : primM [.val (primM [.pk 5, .val (conM (.int 1))] gAdd), .pk 1] gMin2 (PCs n most l .fr s3 (some (ptT x.1, .fr)) (some (.int (x.2 : Nat), .fr)) none) = some ((.int ((min (x.2 + 1) most : Nat) : Int), false), PCs n most l .fr s3 (some (ptT x.1, .fr)) (some (.int (x.2 : Nat), .fr)) none) := by
      simp only [PCs, primM, opsM, rget, List.getD_cons_zero, List.getD_cons_succ, conM, resolves, resolve, Option.map_some, add_i, min2_eq]
    unfold rng1M
    simp only [opsM, e, resolves, resolve, hr, if_true, Int.toNat_natCast, intsT]
  · have hs : starM (varM 4) (varM 6) (PCs n most l .fr s3 (some (ptT x.1, .fr)) (some (.int (x.2 : Nat), .fr)) (some (.int (0 + (c : Nat)), .fr))) = some ((ptT (x.1 ++ [c]), false), PCs n most l .fr s3 (some (ptT x.1, .fr)) (some (.int (x.2 : Nat), .fr)) (some (.int (0 + (c : Nat)), .fr))) := by
      have hl : (nT x.1).length < lim := by simp only [List.length_map, lim_val]; omega
      simp only [starM, varM, letgo, PCs, rget, List.getD_cons_zero, List.getD_cons_succ]
      rw [if_pos hl]
      simp
    have e0 : ((0 : Int) + (c : Int)) = (c : Int) := Int.zero_add _
    rw [e0] at hs ⊢
    have hx2 := max2_eq (u := x.2) (c := c)
    simp only [turnM, yesM, storeM, opsM, hs, primM, vals]
    simp only [PCs, rget, List.getD_cons_zero, List.getD_cons_succ, conM, resolves, resolve, Option.map_some, add_i, hx2, vals, mkT2]
    simp [wipeR, wipe1R, rget]
theorem plain_eq {n most : Nat} (hn : n ≤ 6) (hm : most ≤ 6) : g_plain_colourings [.int (n : Nat), .int (most : Nat)] = some (.lst ((pc most n).map cT), true) := by
  have bound : ∀ k, k ≤ 6 → (pc most k).length ≤ 46656 := fun k hk => by
    refine Nat.le_trans pc_len (Nat.le_trans (Nat.pow_le_pow_left hm k) ?_)
    exact Nat.le_trans (Nat.pow_le_pow_right (by decide) hk) (by decide)
  refine fnG_of rfl ?_
  unfold m_plain_colourings
  refine go_seq ⟨(.nx, PCs n most (pc most 0) .ow none none none none), by simp [PCs, rget, pc], go_seq ?_⟩
  refine go_for (ts := (List.range n).map fun i : Nat => T.int (0 + (i : Nat))) (ρ1 := PCs n most (pc most 0) .ow none none none none) (by
    have hr := rng_r62 (n := n) (by omega)
    simp [rng1M, PCs, rget, hr, intsT]) ?_
  refine go_loopM (J := fun done rest ρ => ∃ s3, ρ = PCs n most (pc most done.length) .ow s3 none none none ∧ Nio s3) ?_ ?_ ⟨none, rfl, nio_none⟩
  · rintro ρ ⟨s3, rfl, _⟩
    rw [List.length_range]
    exact ⟨(.rt (.lst ((pc most n).map cT), true), _), rfl, rfl⟩
  · rintro done i rest ρ hl ⟨s3, rfl, n3⟩
    have hd : done.length < n := by
      have := congrArg List.length hl
      simp only [List.length_append, List.length_cons, List.length_range] at this
      omega
    have hb := bound (done.length + 1) (by omega)
    refine ⟨PCs n most (pc most done.length) .ow (some (.int (0 + (i : Nat)), .fr)) none none none, by simp only [tgM]; rw [setM_nio (s := s3) rfl n3 (by simp [PCs])]; rfl, ?_⟩
    have c1 := comp2_all (src := srcM (varM 2)) (tg := .tp [4, 5]) (src1 := rng1M (.val (primM [.val (primM [.pk 5, .val (conM (.int 1))] gAdd), .pk 1] gMin2))) (tg1 := .nm 6) (cond1 := yesM) (elt := storeM [.val (starM (varM 4) (varM 6)), .val (primM [.pk 5, .val (primM [.pk 6, .val (conM (.int 1))] gAdd)] gMax2)] gMkT) (vs := [4, 5, 6]) (vs1 := [6]) (ρ := PCs n most (pc most done.length) .ow (some (.int (0 + (i : Nat)), .fr)) none none none) (ρ1 := PCs n most (pc most done.length) .fr (some (.int (0 + (i : Nat)), .fr)) none none none) (ρw := PCs n most (pc most done.length) .fr (some (.int (0 + (i : Nat)), .fr)) none none none) (F := cT) (G := cT) (l := pc most done.length) (g := fun x => (List.range (min (x.2 + 1) most)).map fun c => (x.1 ++ [c], max x.2 (c + 1)))
      (src_var (o := .ow) rfl ow_io (by rfl)) rfl
      (fun x hx => ⟨PCs n most (pc most done.length) .fr (some (.int (0 + (i : Nat)), .fr)) (some (ptT x.1, .fr)) (some (.int (x.2 : Nat), .fr)) none, rfl, plain_turn (by omega) (by have := (pc_mem hx).1; omega)⟩)
      (by simp only [pc] at hb; simp only [lim_val]; omega)
    refine go_of (asg_nio (s := some (.lst ((pc most done.length).map cT), .fr)) c1 rfl nio_fr (by simp [PCs])) ?_
    exact ⟨some (.int (0 + (i : Nat)), .fr), by simp [PCs, pc], nio_fr⟩
/-! ### unlike ones, bright ones -/
theorem ints_at {p : List Nat} {i : Nat} {k : Bool} (h : i < p.length) : gIx [.tup k (nT p), .int (i : Nat)] = some (.int (p.getD i 0 : Nat), false) := by
  refine ix_at ?_
  rw [List.getElem?_map, List.getElem?_eq_getElem h, List.getD_eq_getElem?_getD, List.getElem?_eq_getElem h]
  rfl
abbrev kN (F : List Nat) : List Key := F.map fun k : Nat => Sum.inl (k : Int)
theorem hasK_N {F : List Nat} {k : Nat} : hasK (kN F) (.inl (k : Int)) = decide (k ∈ F) := by
  unfold hasK
  rw [List.any_map]
  by_cases h : k ∈ F
  · rw [decide_eq_true h, List.any_eq_true]
    exact ⟨k, h, by simp⟩
  · rw [decide_eq_false h, List.any_eq_false]
    intro x hx
    simp only [Function.comp, decide_eq_true_eq]
    intro e
    injection e with e
    exact h ((Int.ofNat.inj e) ▸ hx)
theorem zip_same {α : Type} [DecidableEq α] {k : α} {t : T} : ∀ {ks : List α}, ((ks.zip (List.replicate ks.length t)).map fun p => if p.1 = k then t else p.2) = List.replicate ks.length t
  | [] => rfl
  | x :: ks => by
    have := zip_same (k := k) (t := t) (ks := ks)
    rw [List.length_cons, List.replicate_succ, List.zip_cons_cons, List.map_cons, this]
    simp
theorem putK_N {F : List Nat} {k : Nat} : putL (kN F) (List.replicate F.length (T.bl true)) (.inl (k : Int)) (.bl true) = (kN (addK F k), List.replicate (addK F k).length (T.bl true)) := by
  unfold putL addK
  rw [hasK_N]
  by_cases h : k ∈ F
  · simp only [h, decide_true, if_true]
    have := zip_same (k := (Sum.inl (k : Int) : Key)) (t := T.bl true) (ks := kN F)
    rw [List.length_map] at this
    rw [this]
  · simp [h, List.replicate_succ']
theorem unlike_eq {p sp : List Nat} {k : Bool} (hs : ∀ i ∈ sp, i < p.length) (hl : sp.length ≤ 1000) : g_are_unlike_at [ptK k p, spT sp] = some (.bl (unl p sp), false) := by
  have key : ∀ (l F : List Nat), (∀ i ∈ l, i < p.length) → F.length + l.length ≤ 1000 → loopD (.nm 2) (turnD yesM (primM [.pk 0, .pk 2] gIx) (conM (.bl true)) [2]) (nT l) (kN F, List.replicate F.length (T.bl true)) [some (ptK k p, .fr), some (spT sp, .fr), none]
      = some ((kN ((l.map fun i => p.getD i 0).foldl addK F), List.replicate ((l.map fun i => p.getD i 0).foldl addK F).length (T.bl true)), [some (ptK k p, .fr), some (spT sp, .fr), none]) := by
    intro l
    induction l with
    | nil => intro F _ _; rfl
    | cons i l ih =>
      intro F hi hF
      simp only [List.length_cons] at hF
      have h1 := ints_at (k := k) (hi i List.mem_cons_self)
      have h2 := addK_len (l := [p.getD i 0]) (F := F)
      simp only [List.foldl_cons, List.foldl_nil, List.length_cons, List.length_nil] at h2
      have hk : (kN F).length < lim := by simp only [List.length_map, lim_val]; omega
      have ht : turnD yesM (primM [.pk 0, .pk 2] gIx) (conM (.bl true)) [2] (kN F, List.replicate F.length (T.bl true)) [some (ptK k p, .fr), some (spT sp, .fr), some (.int (i : Nat), .fr)] = some ((kN (addK F (p.getD i 0)), List.replicate (addK F (p.getD i 0)).length (T.bl true)), [some (ptK k p, .fr), some (spT sp, .fr), none]) := by
        simp only [turnD, yesM, primM, opsM, rget, List.getD_cons_zero, List.getD_cons_succ, resolves, resolve, Option.map_some, h1, kOf, conM, wipeR, wipe1R, putK_N]
        rw [if_pos (by simp)]
        simp only []
        rw [if_pos hk]
        rfl
      have hst : tgM (.nm 2) (.int (i : Nat)) [some (ptK k p, .fr), some (spT sp, .fr), none] = some [some (ptK k p, .fr), some (spT sp, .fr), some (.int (i : Nat), .fr)] := rfl
      have := ih (addK F (p.getD i 0)) (fun j hj => hi j (List.mem_cons_of_mem _ hj)) (by omega)
      simp only [List.map_cons, loopD, hst, ht, List.foldl_cons]
      exact this
  have hd : dcM (srcM (varM 1)) (.nm 2) yesM (primM [.pk 0, .pk 2] gIx) (conM (.bl true)) [2] [some (ptK k p, .fr), some (spT sp, .fr), none] = some ((.dic (kN ((sp.map fun i => p.getD i 0).foldl addK [])) (List.replicate ((sp.map fun i => p.getD i 0).foldl addK []).length (T.bl true)), true), [some (ptK k p, .fr), some (spT sp, .fr), none]) := by
    have h1 : srcM (varM 1) [some (ptK k p, .fr), some (spT sp, .fr), none] = some (nT sp, [some (ptK k p, .fr), some (spT sp, .fr), none]) := src_seq (t := spT sp) (.inr ⟨_, rfl⟩) rfl
    have h2 := key sp [] hs (by simpa using hl)
    simp only [List.map_nil, List.length_nil, List.replicate_zero] at h2
    unfold dcM
    rw [h1]
    simp only [wipeR, wipe1R, rget, List.getD_cons_zero, List.getD_cons_succ]
    rw [if_pos (by simp)]
    simp only [List.set_cons_succ, List.set_cons_zero]
    rw [h2]
  have e1 : primM [.val (dcM (srcM (varM 1)) (.nm 2) yesM (primM [.pk 0, .pk 2] gIx) (conM (.bl true)) [2])] gLen [some (ptK k p, .fr), some (spT sp, .fr), none] = some ((.int (((sp.map fun i => p.getD i 0).foldl addK []).length : Nat), false), [some (ptK k p, .fr), some (spT sp, .fr), none]) := prim1 hd (by rw [len_dic]; simp)
  have e2 : gLen [spT sp] = some (.int (sp.length : Nat), false) := by rw [len_seq (l := nT sp) (.inr ⟨_, rfl⟩)]; simp
  have e3 : decide (((((sp.map fun i => p.getD i 0).foldl addK []).length : Nat) : Int) = ((sp.length : Nat) : Int)) = unl p sp := by
    unfold unl
    have := addK_all (l := sp.map fun i => p.getD i 0) (F := [])
    simp only [List.length_nil, List.length_map, Nat.zero_add, List.not_mem_nil, not_false_eq_true, implies_true, and_true] at this
    rw [decide_eq_decide, Int.natCast_inj]
    exact this
  refine fnG_of rfl ?_
  unfold m_are_unlike_at
  have e4 : primM [.val (primM [.val (dcM (srcM (varM 1)) (.nm 2) yesM (primM [.pk 0, .pk 2] gIx) (conM (.bl true)) [2])] gLen), .val (primM [.pk 1] gLen)] gEq [some (ptK k p, .fr), some (spT sp, .fr), none] = some ((.bl (unl p sp), false), [some (ptK k p, .fr), some (spT sp, .fr), none]) := by
    have e5 : primM [.pk 1] gLen [some (ptK k p, .fr), some (spT sp, .fr), none] = some ((.int (sp.length : Nat), false), [some (ptK k p, .fr), some (spT sp, .fr), none]) := by
      simp only [primM, opsM, rget, List.getD_cons_zero, List.getD_cons_succ, resolves, resolve, Option.map_some, e2]
    rw [← e3]
    generalize primM [.val (dcM (srcM (varM 1)) (.nm 2) yesM (primM [.pk 0, .pk 2] gIx) (conM (.bl true)) [2])] gLen = f1 at e1 ⊢
    generalize primM [.pk 1] gLen = f2 at e5 ⊢
    simp only [primM, opsM, e1, e5, resolves, resolve, eq_int]
  exact go_ret (go_of e4 rfl)
theorem blL_map {α : Type} {f : α → Bool} : ∀ {l : List α}, blL (l.map fun x => T.bl (f x)) = some (l.map f)
  | [] => rfl
  | x :: l => by
    simp only [List.map_cons, blL]
    rw [blL_map]
    rfl
theorem any_eq {α : Type} {f : α → Bool} {l : List α} : gAny [.lst (l.map fun x => T.bl (f x))] = some (.bl (l.any f), false) := by
  simp only [gAny]
  rw [blL_map]
  simp [List.any_map]
theorem all_eq {α : Type} {f : α → Bool} {l : List α} : gAll [.lst (l.map fun x => T.bl (f x))] = some (.bl (l.all f), false) := by
  simp only [gAll]
  rw [blL_map]
  simp [List.all_map]
theorem bright_eq {p : List Nat} {k : Bool} {rows : List (List (List Nat))} (h1 : rows.length ≤ 36) (h2 : ∀ r ∈ rows, r.length ≤ 117649) (h3 : ∀ r ∈ rows, ∀ sp ∈ r, (∀ i ∈ sp, i < p.length) ∧ sp.length ≤ 1000) : g_is_bright_on [ptK k p, rowsT rows] = some (.bl (brt p rows), false) := by
  have c1 := comp_all (ρ := [some (ptK k p, .fr), some (rowsT rows, .fr), none, none]) (ρ1 := [some (ptK k p, .fr), some (rowsT rows, .fr), none, none]) (ρw := [some (ptK k p, .fr), some (rowsT rows, .fr), none, none])
    (src := srcM (varM 1)) (tg := .nm 2) (cnd := yesM) (elt := primM [.val (compM (srcM (varM 2)) (.nm 3) yesM (storeM [.val (varM 0), .val (varM 3)] g_are_unlike_at) [3])] gAny) (vs := [2]) (F := rowT) (G := fun r => T.bl (r.any fun sp => unl p sp)) (l := rows)
    (src_seq (t := rowsT rows) (.inl rfl) rfl) rfl (lim_ge (by omega))
    (fun r hr => ⟨[some (ptK k p, .fr), some (rowsT rows, .fr), some (rowT r, .fr), none], rfl, by
      have c2 := comp_all (ρ := [some (ptK k p, .fr), some (rowsT rows, .fr), some (rowT r, .fr), none]) (ρ1 := [some (ptK k p, .fr), some (rowsT rows, .fr), some (rowT r, .fr), none]) (ρw := [some (ptK k p, .fr), some (rowsT rows, .fr), some (rowT r, .fr), none])
        (src := srcM (varM 2)) (tg := .nm 3) (cnd := yesM) (elt := storeM [.val (varM 0), .val (varM 3)] g_are_unlike_at) (vs := [3]) (F := spT) (G := fun sp => T.bl (unl p sp)) (l := r)
        (src_seq (t := rowT r) (.inl rfl) rfl) rfl (lim_ge (Nat.le_trans (h2 r hr) (by decide)))
        (fun sp hsp => ⟨[some (ptK k p, .fr), some (rowsT rows, .fr), some (rowT r, .fr), some (spT sp, .fr)], rfl, by
          have := unlike_eq (k := k) (h3 r hr sp hsp).1 (h3 r hr sp hsp).2
          simp only [turnM, yesM, storeM, opsM, varM, letgo, rget, List.getD_cons_zero, List.getD_cons_succ, vals, this]
          simp [wipeR, wipe1R, rget]⟩)
      have c3 := prim1 c2 any_eq
      simp only [turnM, yesM, c3]
      simp [wipeR, wipe1R, rget]⟩)
  have c4 := prim1 c1 all_eq
  refine fnG_of rfl ?_
  unfold m_is_bright_on
  exact go_ret (go_of c4 rfl)
end Rv
end

section
set_option Elab.async false
set_option autoImplicit false
set_option linter.all false
set_option maxRecDepth 100000
set_option maxHeartbeats 400000
namespace Rv
open PySem PySem.Spec L2 LamX NdefX
open PyProof.Rows hiding St
/-! ### the first bright colouring -/
def FP (P : List Str) (E : List (Str × Str)) (rows : List (List (List Nat))) (k : Nat) (found : List (List Nat)) (o3 : Own) : Rho :=
  [some (wV P E, .fr), some (rowsT rows, .fr), some (.int (k : Nat), .fr), some (.lst (found.map ptT), o3), none, none]
theorem turn_if {cond elt : M} {vs : List Nat} {ρa ρw : Rho} {b o : Bool} {t : T} (h1 : cond ρa = some ((.bl b, false), ρa)) (h2 : elt ρa = some ((t, o), ρa)) (h3 : wipeR vs ρa = some ρw) : turnM cond elt vs ρa = some (if b = true then [t] else [], ρw) := by
  unfold turnM
  cases b <;> simp only [h1, h2, h3] <;> rfl
theorem and_b {c d : M} {ρ : Rho} {a b : Bool} (h1 : c ρ = some ((.bl a, false), ρ)) (h2 : d ρ = some ((.bl b, false), ρ)) : andM c d ρ = some ((.bl (a && b), false), ρ) := by
  unfold andM
  cases a <;> simp only [h1, h2] <;> rfl
theorem store2 {f1 f2 : M} {g : List T → Option Res} {ρ : Rho} {t1 t2 : T} {r : Res} (h1 : f1 ρ = some ((t1, false), ρ)) (h2 : f2 ρ = some ((t2, false), ρ)) (h : g [t1, t2] = some r) : storeM [.val f1, .val f2] g ρ = some (r, ρ) := by
  simp only [storeM, opsM, h1, h2, vals, h]
theorem prim_c {f : M} {g : List T → Option Res} {ρ ρ1 : Rho} {t c : T} {o : Bool} {s : Res} (h : f ρ = some ((t, o), ρ1)) (h2 : g [t, c] = some s) : primM [.val f, .val (conM c)] g ρ = some (s, ρ1) := by
  simp only [primM, opsM, h, conM, resolves, resolve, h2]
theorem nat_dec {a b : Nat} : decide ((a : Int) = (b : Int)) = decide (a = b) := by rw [decide_eq_decide, Int.natCast_inj]
theorem dOkL_nT {n : Nat} : ∀ {l : List Nat}, dOkL n (nT l) = true
  | [] => by cases n <;> rfl
  | x :: l => by
    have := dOkL_nT (n := n) (l := l)
    simp only [List.map_cons] at this ⊢
    unfold dOkL
    rw [this]
    cases n <;> rfl
theorem dOkL_pt {n : Nat} : ∀ {l : List (List Nat)}, dOkL (n + 1) (l.map ptT) = true
  | [] => rfl
  | x :: l => by
    have := dOkL_pt (n := n) (l := l)
    simp only [List.map_cons] at this ⊢
    unfold dOkL
    rw [this]
    have : dOk (n + 1) (ptT x) = dOkL n (nT x) := rfl
    rw [this, dOkL_nT]
    rfl
theorem eq_nilPt {l : List (List Nat)} : gEq [.lst (l.map ptT), .lst []] = some (.bl (decide (l = [])), false) := by
  simp only [gEq]
  rw [if_pos ⟨by show dOkL 11 (l.map ptT) = true; exact dOkL_pt, rfl⟩]
  simp only [teq]
  rw [teqL_nil]
  cases l <;> simp
theorem slH1 {l : List T} : gSlH [.lst l, .int 1] = some (.lst (l.take 1), true) := by
  have h1 : HT.sIx l.length l.length (some 1) = min 1 l.length := HT.sIx_nat l.length l.length 1
  have h0 : HT.sIx l.length 0 none = 0 := rfl
  simp only [gSlH, gCut, cutG, h1, h0]
  simp only [List.drop_zero, Nat.sub_zero]
  congr 3
  rw [Nat.min_comm, ← List.take_take, List.take_of_length_le (by rw [List.length_take]; omega)]
/-- the bright plain colourings of just so many colours -/
def sel (rows : List (List (List Nat))) (n j : Nat) : List (List Nat × Nat) := (pc j n).filter fun x => decide (x.2 = j) && brt x.1 rows
theorem rows_of {P : List Str} {E : List (Str × Str)} {rows : List (List (List Nat))} (hE : EdgesIn E P) (hP : P.length ≤ 6) (hro : RowsOk P E rows) (hr1 : rows.length ≤ 36) (hr2 : ∀ r ∈ rows, r.length ≤ 117649) (k : Bool) (p : List Nat) (hp : p.length = P.length) : g_is_bright_on [ptK k p, rowsT rows] = some (.bl (brt p rows), false) :=
  bright_eq hr1 hr2 fun r hr' sp hsp => by
    obtain ⟨x, y, w, hx, hw, e⟩ := (hro.each r hr').2 sp hsp
    have k := inner_ok hw hE hx
    rw [← e] at k
    refine ⟨by rw [hp]; exact k.2, ?_⟩
    have := nodup_le k.1 (m := List.range P.length) fun i hi => List.mem_range.mpr (k.2 i hi)
    rw [List.length_range] at this
    omega
theorem first_by_eq {P : List Str} {E : List (Str × Str)} {rows : List (List (List Nat))} (hE : EdgesIn E P) (hP : P.length ≤ 6) (hP0 : 1 ≤ P.length) (er : g_inner_lists [wV P E] = some (rowsT rows, true)) (hro : RowsOk P E rows) (hr1 : rows.length ≤ 36) (hr2 : ∀ r ∈ rows, r.length ≤ 117649) :
    ∃ (k : Nat) (p : List Nat), g_first_paint_by [wV P E] = some (.tup false [.int (k : Nat), ptT p], false) ∧ 1 ≤ k ∧ k ≤ P.length ∧ (∀ j, 1 ≤ j → j < k → sel rows P.length j = []) ∧ ∃ u t, sel rows P.length k = (p, u) :: t := by
  have hr3 : ∀ p : List Nat, p.length = P.length → g_is_bright_on [ptT p, rowsT rows] = some (.bl (brt p rows), false) := rows_of hE hP hro hr1 hr2 false
  suffices h : Go (m_first_paint_by (start0 6 [wV P E])) fun x => ∃ (k : Nat) (p : List Nat), outR (some x) = some (.tup false [.int (k : Nat), ptT p], false) ∧ 1 ≤ k ∧ k ≤ P.length ∧ (∀ j, 1 ≤ j → j < k → sel rows P.length j = []) ∧ ∃ u t, sel rows P.length k = (p, u) :: t by
    obtain ⟨x, e, k, p, e2, q⟩ := h
    exact ⟨k, p, fnG_of rfl ⟨x, e, e2⟩, q⟩
  unfold m_first_paint_by
  refine go_seq ⟨(.nx, FP P E rows 0 [] .fr), ?_, go_seq ?_⟩
  · simp only [asgTM, storeM, opsM, varM, letgo, rget, start0, List.map_cons, List.map_nil, List.cons_append, List.nil_append, List.getD_cons_zero, vals, er, conM, mkL0, mkT3]
    simp [setAll, FP, rget, List.replicate]
  have hP5 : P.length ≤ 6 := hP
  refine go_while (I := fun n ρ => ∃ k found o3, ρ = FP P E rows k found o3 ∧ o3 ≠ .io ∧ k ≤ P.length ∧ (found = [] → k < P.length) ∧ (∀ j, 1 ≤ j → (j < k ∨ (j = k ∧ found = [])) → sel rows P.length j = []) ∧ (∀ p t, found = p :: t → 1 ≤ k ∧ ∃ u t, sel rows P.length k = (p, u) :: t) ∧ n = P.length - k) ?_ 1000000 (P.length - 0) _ (by omega) ⟨0, [], .fr, rfl, fr_io, Nat.zero_le _, fun _ => hP0, fun j h1 h2 => absurd h1 (by omega), by simp, rfl⟩
  rintro n ρ ⟨k, found, o3, rfl, ho, hk, hf, hs, hb, rfl⟩
  have e1 := eq_nilPt (l := found)
  refine ⟨decide (found = []), FP P E rows k found o3, ?_, fun hd => ?_, fun hd => ?_⟩
  · simp only [FP, primM, opsM, storeM, rget, List.getD_cons_zero, List.getD_cons_succ, vals, mkL0, resolves, resolve, Option.map_some, e1]
  · have hne : found ≠ [] := by simpa using hd
    obtain ⟨p, t, rfl⟩ := List.exists_cons_of_ne_nil hne
    obtain ⟨hk1, hk2⟩ := hb p t rfl
    refine go_ret ⟨((.tup false [.int (k : Nat), ptT p], false), FP P E rows k (p :: t) o3), ?_, k, p, rfl, hk1, hk, fun j h1 h2 => hs j h1 (.inl h2), hk2⟩
    have h0 : gIx [.lst ((p :: t).map ptT), .int 0] = some (ptT p, false) := ix0 (l := t.map ptT) (.inl rfl)
    simp only [FP, storeM, opsM, varM, letgo, primM, rget, List.getD_cons_zero, List.getD_cons_succ, conM, resolves, resolve, Option.map_some, h0, vals, mkT2]
  · have hd' : found = [] := by simpa using hd
    subst hd'
    have hkP := hf rfl
    refine go_seq ⟨(.nx, FP P E rows (k + 1) [] o3), ?_, ?_⟩
    · have e2 : primM [.pk 2, .val (conM (.int 1))] gAdd (FP P E rows k [] o3) = some ((.int ((k + 1 : Nat) : Int), false), FP P E rows k [] o3) := by
        simp only [FP, primM, opsM, rget, List.getD_cons_zero, List.getD_cons_succ, conM, resolves, resolve, Option.map_some, add_i]
        rfl
      rw [asg_nio (s := some (.int (k : Nat), .fr)) e2 rfl nio_fr (by simp [FP])]
      rfl
    have hpl : (pc (k + 1) P.length).length ≤ 46656 := by
      refine Nat.le_trans pc_len (Nat.le_trans (Nat.pow_le_pow_left (show k + 1 ≤ 6 by omega) _) ?_)
      exact Nat.le_trans (Nat.pow_le_pow_right (by decide) hP5) (by decide)
    have hpe := plain_eq (n := P.length) (most := k + 1) hP5 (by omega)
    have hlen : gLen [wP P] = some (.int (P.length : Nat), false) := by rw [len_seq (l := tS P) (.inr ⟨_, rfl⟩), tS, List.length_map]
    have hsrc : storeM [.val (primM [.val (storeM [.val (varM 0)] (gProp 0 g_Web_places))] gLen), .val (varM 2)] g_plain_colourings (FP P E rows (k + 1) [] o3) = some ((.lst ((pc (k + 1) P.length).map cT), true), FP P E rows (k + 1) [] o3) := by
      have s1 : storeM [.val (varM 0)] (gProp 0 g_Web_places) (FP P E rows (k + 1) [] o3) = some ((wP P, false), FP P E rows (k + 1) [] o3) := by
        simp only [FP, storeM, opsM, varM, letgo, rget, List.getD_cons_zero, vals, places_eq]
      have s2 := prim1 s1 hlen
      have s3 : varM 2 (FP P E rows (k + 1) [] o3) = some ((.int ((k + 1 : Nat) : Int), false), FP P E rows (k + 1) [] o3) := rfl
      exact store2 s2 s3 hpe
    have c1 := comp_map (ρ := FP P E rows (k + 1) [] o3) (ρ1 := FP P E rows (k + 1) [] o3) (ρw := FP P E rows (k + 1) [] o3)
      (src := srcM (storeM [.val (primM [.val (storeM [.val (varM 0)] (gProp 0 g_Web_places))] gLen), .val (varM 2)] g_plain_colourings)) (tg := .tp [4, 5]) (cnd := andM (primM [.pk 5, .pk 2] gEq) (storeM [.val (varM 4), .val (varM 1)] g_is_bright_on)) (elt := varM 4) (vs := [4, 5]) (F := cT) (G := fun x => ptT x.1) (l := pc (k + 1) P.length) (p := fun x => decide (x.2 = k + 1) && brt x.1 rows)
      (src_ll (b := true) hsrc) (by simp [FP, wipeR, wipe1R, rget]) (lim_ge (Nat.le_trans hpl (by omega)))
      (fun x hx => ⟨[some (wV P E, .fr), some (rowsT rows, .fr), some (.int ((k + 1 : Nat) : Int), .fr), some (.lst (([] : List (List Nat)).map ptT), o3), some (ptT x.1, .fr), some (.int (x.2 : Nat), .fr)], rfl, by
        have h1 : gEq [.int (x.2 : Nat), .int ((k + 1 : Nat) : Int)] = some (.bl (decide (x.2 = k + 1)), false) := by rw [eq_int, nat_dec]
        have h2 := hr3 x.1 (pc_mem hx).1
        have a1 : primM [.pk 5, .pk 2] gEq [some (wV P E, .fr), some (rowsT rows, .fr), some (.int ((k + 1 : Nat) : Int), .fr), some (.lst (([] : List (List Nat)).map ptT), o3), some (ptT x.1, .fr), some (.int (x.2 : Nat), .fr)] = some ((.bl (decide (x.2 = k + 1)), false), [some (wV P E, .fr), some (rowsT rows, .fr), some (.int ((k + 1 : Nat) : Int), .fr), some (.lst (([] : List (List Nat)).map ptT), o3), some (ptT x.1, .fr), some (.int (x.2 : Nat), .fr)]) := by
          simp only [primM, opsM, rget, List.getD_cons_zero, List.getD_cons_succ, resolves, resolve, Option.map_some, h1]
        have a2 : storeM [.val (varM 4), .val (varM 1)] g_is_bright_on [some (wV P E, .fr), some (rowsT rows, .fr), some (.int ((k + 1 : Nat) : Int), .fr), some (.lst (([] : List (List Nat)).map ptT), o3), some (ptT x.1, .fr), some (.int (x.2 : Nat), .fr)] = some ((.bl (brt x.1 rows), false), [some (wV P E, .fr), some (rowsT rows, .fr), some (.int ((k + 1 : Nat) : Int), .fr), some (.lst (([] : List (List Nat)).map ptT), o3), some (ptT x.1, .fr), some (.int (x.2 : Nat), .fr)]) := by
          simp only [storeM, opsM, varM, letgo, rget, List.getD_cons_zero, List.getD_cons_succ, vals, h2]
        exact turn_if (and_b a1 a2) rfl (by simp [FP, wipeR, wipe1R, rget])⟩)
    have hres : ((pc (k + 1) P.length).filter fun x => decide (x.2 = k + 1) && brt x.1 rows) = sel rows P.length (k + 1) := rfl
    rw [hres] at c1
    have c2 : primM [.val (compM (srcM (storeM [.val (primM [.val (storeM [.val (varM 0)] (gProp 0 g_Web_places))] gLen), .val (varM 2)] g_plain_colourings)) (.tp [4, 5]) (andM (primM [.pk 5, .pk 2] gEq) (storeM [.val (varM 4), .val (varM 1)] g_is_bright_on)) (varM 4) [4, 5]), .val (conM (.int 1))] gSlH (FP P E rows (k + 1) [] o3) = some ((.lst ((((sel rows P.length (k + 1)).take 1).map fun x => x.1).map ptT), true), FP P E rows (k + 1) [] o3) := by
      refine prim_c c1 ?_
      rw [slH1, List.map_map, List.map_take]
      rfl
    refine go_of (asg_nio (s := some (.lst (([] : List (List Nat)).map ptT), o3)) c2 rfl (fun o h => by cases h; exact ho) (by simp [FP])) ?_
    have hz : ((sel rows P.length (k + 1)).take 1).map (fun x => x.1) = [] → sel rows P.length (k + 1) = [] := fun z => by
      cases q : sel rows P.length (k + 1) with
      | nil => rfl
      | cons y t => rw [q] at z; simp at z
    refine ⟨P.length - (k + 1), by omega, k + 1, ((sel rows P.length (k + 1)).take 1).map fun x => x.1, .ow, by simp [FP], ow_io, hkP, fun z => ?_, fun j h1 h2 => ?_, fun p t z => ?_, rfl⟩
    · apply Classical.byContradiction
      intro hge
      have hkk : k + 1 = P.length := by omega
      have hm := pc_range (most := k + 1) (n := P.length) (by omega)
      have : (List.range P.length, P.length) ∈ sel rows P.length (k + 1) := by
        refine List.mem_filter.mpr ⟨hm, ?_⟩
        simp only [rows_bright hro hE, Bool.and_true, decide_eq_true_eq]
        exact hkk.symm
      rw [hz z] at this
      cases this
    · rcases h2 with h2 | ⟨rfl, h2⟩
      · by_cases hj : j = k
        · exact hs j h1 (.inr ⟨hj, rfl⟩)
        · exact hs j h1 (.inl (by omega))
      · exact hz h2
    · refine ⟨by omega, ?_⟩
      cases q : sel rows P.length (k + 1) with
      | nil => rw [q] at z; simp at z
      | cons y t' =>
        rw [q] at z
        simp only [List.take_succ_cons, List.take_zero, List.map_cons, List.map_nil] at z
        injection z with z1 z2
        exact ⟨y.2, t', by rw [← z1]⟩
theorem first_paint_eq {P : List Str} {E : List (Str × Str)} (hE : EdgesIn E P) (hP : P.length ≤ 6) (hP0 : 1 ≤ P.length) (hn : E.Nodup) (hs : ∀ e ∈ E, (e.2, e.1) ∉ E) (h9 : E.length ≤ 9) (hr : ∀ x ∈ P, ∀ y ∈ P, Reach E x y) :
    ∃ p rows, g_first_paint [wV P E] = some (ptT p, false) ∧ RowsOk P E rows ∧ p.length = P.length ∧ brt p rows = true := by
  obtain ⟨rows, er, hro, hr1, hr2⟩ := inner_lists_eq hE hP hn hs h9 hr
  obtain ⟨k, p, h1, _, _, _, u, t, hsel⟩ := first_by_eq hE hP hP0 er hro hr1 hr2
  have hm : (p, u) ∈ sel rows P.length k := by rw [hsel]; exact List.mem_cons_self
  obtain ⟨m1, m2⟩ := List.mem_filter.mp hm
  rw [Bool.and_eq_true] at m2
  refine ⟨p, rows, ?_, hro, (pc_mem m1).1, m2.2⟩
  refine fnG_of rfl ?_
  unfold m_first_paint
  refine go_seq ⟨(.nx, [some (wV P E, .fr)]), by simp [rget, check_eq], ?_⟩
  have e3 := ix_at (k := false) (l := [T.int (k : Nat), ptT p]) (i := 1) (t := ptT p) rfl
  have e4 : gIx [.tup false [.int (k : Nat), ptT p], .int 1] = some (ptT p, false) := e3
  simp [rget, h1, e4, outR]
end Rv
end

section
set_option Elab.async false
set_option autoImplicit false
set_option linter.all false
set_option maxRecDepth 100000
set_option maxHeartbeats 400000
namespace Rv
open PySem PySem.Spec L2 LamX NdefX
open PyProof.Rows hiding St
/-! ### steps -/
section
variable {f f1 f2 : M} {g : List T → Option Res} {ρ ρ1 ρ2 : Rho} {t t1 t2 : T} {o o1 o2 : Bool} {s : Res}
theorem st1 (h1 : f ρ = some ((t, o), ρ1)) (h : g [t] = some s) : storeM [.val f] g ρ = some (s, ρ1) := by
  simp only [storeM, opsM, h1, vals, h]
theorem st2 (h1 : f1 ρ = some ((t1, o1), ρ1)) (h2 : f2 ρ1 = some ((t2, o2), ρ2)) (h : g [t1, t2] = some s) : storeM [.val f1, .val f2] g ρ = some (s, ρ2) := by
  simp only [storeM, opsM, h1, h2, vals, h]
theorem pm2 (h1 : f1 ρ = some ((t1, o1), ρ1)) (h2 : f2 ρ1 = some ((t2, o2), ρ2)) (h : g [t1, t2] = some s) : primM [.val f1, .val f2] g ρ = some (s, ρ2) := by
  simp only [primM, opsM, h1, h2, resolves, resolve, h]
theorem pk1 {i : Nat} {w : Own} (h1 : rget ρ i = some (t, w)) (h : g [t] = some s) : primM [.pk i] g ρ = some (s, ρ) := by
  simp only [primM, opsM, h1, resolves, resolve, Option.map_some, h]
theorem pk2 {i j : Nat} {w w2 : Own} (h1 : rget ρ i = some (t1, w)) (h2 : rget ρ j = some (t2, w2)) (h : g [t1, t2] = some s) : primM [.pk i, .pk j] g ρ = some (s, ρ) := by
  simp only [primM, opsM, h1, h2, resolves, resolve, Option.map_some, h]
theorem pkc {i : Nat} {w : Own} (h1 : rget ρ i = some (t1, w)) (h : g [t1, t2] = some s) : primM [.pk i, .val (conM t2)] g ρ = some (s, ρ) := by
  simp only [primM, opsM, h1, conM, resolves, resolve, Option.map_some, h]
theorem pkv {i : Nat} {w : Own} (h2 : f ρ = some ((t2, o2), ρ2)) {o1' : Own} (h0 : rget ρ i = some (t, o1')) (h1 : rget ρ2 i = some (t1, w)) (h : g [t1, t2] = some s) : primM [.pk i, .val f] g ρ = some (s, ρ2) := by
  simp only [primM, opsM, h0, h2, resolves, resolve, h1, Option.map_some, h]
theorem vm_fr {i : Nat} (h : rget ρ i = some (t, .fr)) : varM i ρ = some ((t, false), ρ) := by
  simp only [varM, letgo, h]
theorem vm_ow {i : Nat} (h : rget ρ i = some (t, .ow)) : varM i ρ = some ((t, false), ρ.set i (some (t, .fr))) := by
  simp only [varM, letgo, h]
theorem if_nop {c : M} {a : SM} (h : c ρ = some ((.bl false, false), ρ1)) : ifM c a nopM ρ = some (.nx, ρ1) := by
  unfold ifM
  simp only [h, nopM]
theorem or_ff {c d : M} (h1 : c ρ = some ((.bl false, false), ρ1)) (h2 : d ρ1 = some ((.bl false, false), ρ2)) : orM c d ρ = some ((.bl false, false), ρ2) := by
  unfold orM
  simp only [h1, h2]
theorem not_b {c : M} {b : Bool} (h : c ρ = some ((.bl b, false), ρ1)) : notM c ρ = some ((.bl (!b), false), ρ1) := by
  unfold notM
  simp only [h]
end
theorem par_nio {ρ ρ1 ρ2 : Rho} {i j : Nat} {f g : M} {t1 t2 : T} {b1 b2 : Bool} {s s' : Option (T × Own)} (h1 : f ρ = some ((t1, b1), ρ1)) (h2 : g ρ1 = some ((t2, b2), ρ2)) (hij : i ≠ j) (hi : rget ρ2 i = s) (ni : Nio s) (li : i < ρ2.length) (hj : rget (ρ2.set i (some (t1, if b1 then .ow else .fr))) j = s') (nj : Nio s') (lj : j < ρ2.length) :
    parM i j f g ρ = some (.nx, (ρ2.set i (some (t1, if b1 then .ow else .fr))).set j (some (t2, if b2 then .ow else .fr))) := by
  unfold parM
  simp only [h1, h2]
  rw [if_neg hij, setM_nio hi ni li]
  simp only
  rw [setM_nio hj nj (by rw [List.length_set]; exact lj)]
theorem Good.en {P : List Str} {E : List (Str × Str)} (g : Good P E) : E.Nodup := g.sp.imp fun h e => by
  subst e
  rw [pl, lt_pair, decide_eq_true_iff] at h
  rcases h with h | ⟨_, h⟩ <;> exact sl_irr _ h
theorem Good.as {P : List Str} {E : List (Str × Str)} (g : Good P E) : ∀ e ∈ E, (e.2, e.1) ∉ E := fun e he h => sl_irr _ (sl_trans (g.up e he) (g.up _ h))
theorem same_bl {b : Bool} (d : Nat) : g__law_same (d + 1) [.bl b, .bl b] = some (.bl true, false) := by
  refine fnG_of rfl ?_
  unfold m__law_same
  refine go_seq ⟨(.nx, [some (.bl b, .fr), some (.bl b, .fr), none]), by simp [ifM, rget, gIsi, isiT, tyN, tys], ?_⟩
  refine go_seq ⟨(.nx, [some (.bl b, .fr), some (.bl b, .fr), none]), by simp [ifM, rget, gIsN, isNon], ?_⟩
  have e : gEq [.bl b, .bl b] = some (.bl true, false) := by cases b <;> rfl
  refine go_seq ⟨(.rt (.bl true, false), [some (.bl b, .fr), some (.bl b, .fr), none]), by simp [ifM, rget, gIsi, isiT, tyN, tys, e], ?_⟩
  rfl
/-! ### right colours -/
theorem is_colour_eq {c : Nat} (h : c ≤ 8) : g_is_colour [.int (c : Nat)] = some (.bl true, false) := by
  have h1 : g_is_whole [.int (c : Nat)] = some (.bl true, false) := by
    refine fnG_of rfl ?_
    simp [m_is_whole, rget, gIsi, isiT, tyN, tys, outR]
  have h2 : g_is_between [.int (c : Nat), .int 0, .int 8] = some (.bl true, false) := by
    refine fnG_of rfl ?_
    have : (0 : Int) ≤ c ∧ (c : Int) ≤ 8 := by omega
    simp [m_is_between, chainM, rget, h1, outR, this]
  refine fnG_of rfl ?_
  simp [m_is_colour, rget, h2, outR]
theorem wrong_in_all_eq {p : List Nat} {k : Bool} (h : ∀ c ∈ p, c ≤ 8) : g_wrong_in_all [.tup k (nT p), .int (p.length : Nat), .gfn 0] = some (.lst [], true) := by
  have key : ∀ (rest done : List Nat), p = done ++ rest → goW gl_wrong_in_all [.gfn 0] (p.length : Nat) (nT p) done.length (nT rest) = some [] := by
    intro rest
    induction rest with
    | nil => intro done _; rfl
    | cons x rest ih =>
      intro done hl
      have hd : ¬ ((done.length : Int) = (p.length : Nat)) := by
        have := congrArg List.length hl
        simp only [List.length_append, List.length_cons] at this
        omega
      have hg : gl_wrong_in_all [.tup false ((nT p).take done.length), .int (x : Nat), .gfn 0] = some (.bl true, false) := by
        have h1 := is_colour_eq (h x (by rw [hl]; simp))
        unfold gl_wrong_in_all fnE
        have h2 : gs0[0]? = some g_is_colour := rfl
        simp [ml_wrong_in_all, callVM, rget, h2, h1]
      have := ih (done ++ [x]) (by rw [hl]; simp)
      simp only [List.map_cons, goW] at this hg ⊢
      rw [if_neg hd]
      simp only [List.cons_append, List.nil_append]
      rw [hg]
      simpa using this
  have h0 : GW_wrong_in_all [.tup k (nT p), .int (p.length : Nat), .int (p.length : Nat)] [.gfn 0] = some [] := by
    simp only [GW_wrong_in_all, wrongT]
    rw [if_neg (by simp only [List.length_map]; omega)]
    exact key p [] rfl
  have h3 : g_is_tuple_of [.tup k (nT p), .int (p.length : Nat)] = some (.bl true, false) := by
    refine fnG_of rfl ?_
    simp [m_is_tuple_of, rget, gIsi, isiT, tyN, tys, gLen, gEqI, outR]
  refine fnG_of rfl ?_
  unfold m_wrong_in_all
  simp [giveM, rget, capsM, h0, h3, outR]
theorem len_P {P : List Str} : gLen [wP P] = some (.int (P.length : Nat), false) := by rw [len_seq (l := tS P) (.inr ⟨_, rfl⟩), tS, List.length_map]
theorem check_paint_eq {P : List Str} {E : List (Str × Str)} {p : List Nat} {k : Bool} (h : ∀ c ∈ p, c ≤ 8) (hp : p.length = P.length) : g_check_paint [wV P E, .tup k (nT p)] = some (.non, false) := by
  have h1 := wrong_in_all_eq (k := k) h
  rw [hp] at h1
  have h2 : g_wrong_in_colours [.tup k (nT p), .int (P.length : Nat)] = some (.lst [], true) := by
    refine fnG_of rfl ?_
    simp [m_wrong_in_colours, rget, h1, outR]
  have h3 : g_wrong_in_paint [wV P E, .tup k (nT p)] = some (.lst [], true) := by
    refine fnG_of rfl ?_
    unfold m_wrong_in_paint
    exact go_ret (go_of (st2 (ρ1 := [some (wV P E, .fr), some (.tup k (nT p), .fr)]) (vm_fr rfl) (prim1 (st1 (vm_fr rfl) places_eq) len_P) h2) rfl)
  refine fnG_of rfl ?_
  unfold m_check_paint
  refine go_seq ⟨(.nx, [some (wV P E, .fr), some (.tup k (nT p), .fr), none]), by simp [rget, check_eq], ?_⟩
  refine go_for (ts := []) (ρ1 := [some (wV P E, .fr), some (.tup k (nT p), .fr), none]) (src_ll (b := true) (st2 (vm_fr rfl) (vm_fr rfl) h3)) ?_
  exact ⟨_, rfl, rfl⟩
/-! ### bright, by all ways -/
open Classical in
/-- whether each two places have a way whose places between have unlike colours -/
noncomputable def brtP (P : List Str) (E : List (Str × Str)) (p : List Nat) : Bool := decide (∀ x ∈ P, ∀ y ∈ P, sl x y → ∃ w, Path E x w y ∧ unl p (inner P w) = true)
open Classical in
theorem brtP_iff {P : List Str} {E : List (Str × Str)} {p : List Nat} : brtP P E p = true ↔ ∀ x ∈ P, ∀ y ∈ P, sl x y → ∃ w, Path E x w y ∧ unl p (inner P w) = true := decide_eq_true_iff
theorem pairs_sl {P : List Str} (hs : P.Pairwise sl) {e : Str × Str} : e ∈ pairs P ↔ e.1 ∈ P ∧ e.2 ∈ P ∧ sl e.1 e.2 := by
  have fwd : ∀ {e : Str × Str}, e ∈ pairs P → sl e.1 e.2 := by
    intro e h
    simp only [pairs, List.mem_flatMap, List.mem_map] at h
    obtain ⟨x, hx, y, hy, rfl⟩ := h
    obtain ⟨i, hi, ei⟩ := List.getElem_of_mem hx
    rw [List.length_zipIdx] at hi
    simp only [List.getElem_zipIdx, Nat.zero_add] at ei
    subst ei
    obtain ⟨j, hj, ej⟩ := List.getElem_of_mem hy
    rw [List.length_drop] at hj
    simp only [List.getElem_drop] at ej
    subst ej
    exact List.pairwise_iff_getElem.mp hs i _ _ _ (by omega)
  constructor
  · intro h
    exact ⟨(pairs_in h).1, (pairs_in h).2, fwd h⟩
  · rintro ⟨h1, h2, h3⟩
    rcases pairs_all h1 h2 (fun z => sl_irr e.1 (by rw [← z] at h3; exact h3)) with k | k
    · exact k
    · exact absurd (sl_trans h3 (fwd k)) (sl_irr _)
theorem brt_iff {P : List Str} {E : List (Str × Str)} {rows : List (List (List Nat))} {p : List Nat} (hs : P.Pairwise sl) (h : RowsOk P E rows) : brt p rows = brtP P E p := by
  rw [Bool.eq_iff_iff, brtP_iff]
  unfold brt
  rw [List.all_eq_true]
  constructor
  · intro k x hx y hy hxy
    obtain ⟨r, hr, q⟩ := h.all (x, y) ((pairs_sl hs).mpr ⟨hx, hy, hxy⟩)
    obtain ⟨sp, hsp, hu⟩ := List.any_eq_true.mp (k r hr)
    obtain ⟨w, hw, rfl⟩ := q sp hsp
    exact ⟨w, hw, hu⟩
  · intro k r hr
    obtain ⟨e, he, q⟩ := h.full r hr
    obtain ⟨h1, h2, h3⟩ := (pairs_sl hs).mp he
    obtain ⟨w, hw, hu⟩ := k e.1 h1 e.2 h2 h3
    exact List.any_eq_true.mpr ⟨_, q w hw, hu⟩
theorem bright_at {P : List Str} {E : List (Str × Str)} {p : List Nat} {k : Bool} (g : Good P E) (h : ∀ c ∈ p, c ≤ 8) (hp : p.length = P.length) : g_is_bright [wV P E, .tup k (nT p)] = some (.bl (brtP P E p), false) := by
  obtain ⟨rows, er, hro, hr1, hr2⟩ := inner_lists_eq g.inP g.l6 g.en g.as g.e9 g.all
  have h1 := rows_of g.inP g.l6 hro hr1 hr2 k p hp
  rw [brt_iff g.so hro] at h1
  have h2 : g_is_bright_by [wV P E, .tup k (nT p)] = some (.bl (brtP P E p), false) := by
    refine fnG_of rfl ?_
    unfold m_is_bright_by
    exact go_ret (go_of (st2 (ρ1 := [some (wV P E, .fr), some (.tup k (nT p), .fr)]) (vm_fr rfl) (st1 (vm_fr rfl) er) h1) rfl)
  have h3 := check_paint_eq (E := E) (k := k) h hp
  refine fnG_of rfl ?_
  unfold m_is_bright
  refine go_seq ⟨(.nx, [some (wV P E, .fr), some (.tup k (nT p), .fr)]), by simp [rget, h3], ?_⟩
  exact go_ret (go_of (st2 (ρ1 := [some (wV P E, .fr), some (.tup k (nT p), .fr)]) (vm_fr rfl) (vm_fr rfl) h2) rfl)
end Rv
end

section
set_option Elab.async false
set_option autoImplicit false
set_option linter.all false
set_option maxRecDepth 100000
set_option maxHeartbeats 400000
namespace Rv
open PySem PySem.Spec L2 LamX NdefX
open PyProof.Rows hiding St
/-! ### the law's pairs of places -/
def lpairs (P : List Str) (l : List Str) : List (Str × Str) := l.flatMap fun x => (P.filter fun y => decide (sl x y)).map fun y => (x, y)
theorem mem_lpairs {P : List Str} {e : Str × Str} : e ∈ lpairs P P ↔ e.1 ∈ P ∧ e.2 ∈ P ∧ sl e.1 e.2 := by
  unfold lpairs
  simp only [List.mem_flatMap, List.mem_map, List.mem_filter, decide_eq_true_eq]
  constructor
  · rintro ⟨x, hx, y, ⟨hy, h⟩, rfl⟩
    exact ⟨hx, hy, h⟩
  · rintro ⟨h1, h2, h3⟩
    exact ⟨e.1, h1, e.2, ⟨h2, h3⟩, rfl⟩
theorem lpairs_len {P l : List Str} (hP : P.length ≤ 6) : (lpairs P l).length ≤ l.length * 6 := by
  unfold lpairs
  exact fm_len fun x _ => by rw [List.length_map]; exact Nat.le_trans (List.length_filter_le _ _) hP
theorem law_pairs_eq {P : List Str} (hP : P.length ≤ 6) : g__law_pairs [wP P] = some (.lst (tP (lpairs P P)), true) := by
  refine fnG_of rfl ?_
  unfold m__law_pairs
  refine go_seq ⟨(.nx, [some (wP P, .fr), some (.lst (tP (lpairs P [])), .ow), none, none]), by simp [rget, lpairs, tP], ?_⟩
  refine go_seq (go_for (ts := P.map T.str) (ρ1 := [some (wP P, .fr), some (.lst (tP (lpairs P [])), .ow), none, none]) (srcP (vm_fr rfl)) ?_)
  refine go_loopM (J := fun done rest ρ => ∃ s2, ρ = [some (wP P, .fr), some (.lst (tP (lpairs P done)), .ow), s2, none] ∧ Nio s2) ?_ ?_ ⟨none, rfl, nio_none⟩
  · rintro ρ ⟨s2, rfl, _⟩
    exact ⟨(.rt (.lst (tP (lpairs P P)), true), _), rfl, rfl⟩
  · rintro done x rest ρ hl ⟨s2, rfl, n2⟩
    have hd : done.length < P.length := by
      have := congrArg List.length hl
      simp only [List.length_append, List.length_cons] at this
      omega
    refine ⟨[some (wP P, .fr), some (.lst (tP (lpairs P done)), .ow), some (.str x, .fr), none], by simp only [tgM]; rw [setM_nio (s := s2) rfl n2 (by simp)]; rfl, ?_⟩
    have c1 := comp_map (ρ := [some (wP P, .fr), some (.lst (tP (lpairs P done)), .ow), some (.str x, .fr), none]) (ρ1 := [some (wP P, .fr), some (.lst (tP (lpairs P done)), .ow), some (.str x, .fr), none]) (ρw := [some (wP P, .fr), some (.lst (tP (lpairs P done)), .ow), some (.str x, .fr), none])
      (src := srcM (varM 0)) (tg := .nm 3) (cnd := primM [.pk 2, .pk 3] gLt) (elt := storeM [.val (varM 2), .val (varM 3)] gMkT) (vs := [3]) (F := T.str) (G := fun y => pr (x, y)) (l := P) (p := fun y => decide (sl x y))
      (srcP (vm_fr rfl)) rfl (lim_ge (by omega))
      (fun y hy => ⟨[some (wP P, .fr), some (.lst (tP (lpairs P done)), .ow), some (.str x, .fr), some (.str y, .fr)], rfl, turn_if (pk2 rfl rfl lt_str) (st2 (vm_fr rfl) (vm_fr rfl) mkT2) rfl⟩)
    have hl1 := lpairs_len (l := done) hP
    have hl2 := List.length_filter_le (fun y => decide (sl x y)) P
    have e1 : tP (lpairs P (done ++ [x])) = tP (lpairs P done) ++ (P.filter fun y => decide (sl x y)).map fun y => pr (x, y) := by
      simp [lpairs, tP, Function.comp]
    have c2 := pkv (i := 1) (o1' := .ow) (w := .ow) (t := .lst (tP (lpairs P done))) c1 rfl rfl (add_ll (l := tP (lpairs P done)) (m := (P.filter fun y => decide (sl x y)).map fun y => pr (x, y)) (by simp only [tP, List.length_map, lim_val]; omega))
    rw [← e1] at c2
    exact go_of (asg_nio (s := some (.lst (tP (lpairs P done)), .ow)) c2 rfl (fun o h => by cases h; simp) (by simp)) ⟨_, rfl, nio_fr⟩
/-! ### the law's own look -/
def colT (p sp : List Nat) : T := .lst (nT (sp.map fun i => p.getD i 0))
theorem nset_nat {l : List Nat} : decide (((nset (l.map fun i : Nat => (i : Int)) : Nat) : Int) = ((l.length : Nat) : Int)) = decide l.Nodup := by
  rw [nat_dec, decide_eq_decide]
  have := nset_all (l.map fun i : Nat => (i : Int))
  rw [List.length_map] at this
  rw [this]
  constructor
  · intro h
    rw [List.nodup_iff_pairwise_ne] at h ⊢
    rw [List.pairwise_map] at h
    exact h.imp fun a b => a (by rw [b])
  · intro h
    exact nodup_of_inj h fun a _ b _ e => Int.natCast_inj.mp e
theorem intsOf_nat : ∀ {l : List Nat}, intsOf (l.map fun i : Nat => T.int (i : Nat)) = some (l.map fun i : Nat => (i : Int))
  | [] => rfl
  | x :: l => by
    simp only [List.map_cons, intsOf]
    rw [intsOf_nat]
    rfl
def LBt (P : List Str) (E : List (Str × Str)) (k : Bool) (p : List Nat) (s3 s4 s5 s6 s7 s8 : Option (T × Own)) : Rho :=
  [some (wL P E, .fr), some (.tup k (nT p), .fr), some (wP P, .fr), s3, s4, s5, s6, s7, s8]
theorem lrow_eq {P : List Str} {E : List (Str × Str)} {k : Bool} {p : List Nat} {w : List Str} {s3 s4 s5 : Option (T × Own)} (hp : p.length = P.length) (hw : w ≠ []) (hl : w.length ≤ 6) (hP : ∀ z ∈ w, z ∈ P) :
    compM (srcM (primM [.pk 6] (gSlC 1 (-1)))) (.nm 7) yesM (primM [.pk 1, .val (indexM (varM 2) (.pk 7))] gIx) [7] (LBt P E k p s3 s4 s5 (some (wy w, .fr)) none none) = some ((colT p (inner P w), true), LBt P E k p s3 s4 s5 (some (wy w, .fr)) none none) := by
  have hin : w.tail.dropLast.length ≤ 6 := Nat.le_trans (List.dropLast_sublist _).length_le (Nat.le_trans (List.tail_sublist w).length_le hl)
  have c1 := comp_all (ρ := LBt P E k p s3 s4 s5 (some (wy w, .fr)) none none) (ρ1 := LBt P E k p s3 s4 s5 (some (wy w, .fr)) none none) (ρw := LBt P E k p s3 s4 s5 (some (wy w, .fr)) none none)
    (src := srcM (primM [.pk 6] (gSlC 1 (-1)))) (tg := .nm 7) (cnd := yesM) (elt := primM [.pk 1, .val (indexM (varM 2) (.pk 7))] gIx) (vs := [7]) (F := T.str) (G := fun z => T.int (p.getD (P.idxOf z) 0 : Nat)) (l := w.tail.dropLast)
    (src_seq (t := .tup false (tS w.tail.dropLast)) (.inr ⟨_, rfl⟩) (pk1 rfl (slC_way hw))) rfl (lim_ge (by omega))
    (fun z hz => ⟨LBt P E k p s3 s4 s5 (some (wy w, .fr)) (some (.str z, .fr)) none, rfl, by
      have hzP := hP z (List.mem_of_mem_tail (List.dropLast_subset _ hz))
      have h := index_S hzP
      have hi := List.idxOf_lt_length_of_mem hzP
      have h2 := ints_at (p := p) (k := k) (i := P.idxOf z) (by omega)
      have a2 : indexM (varM 2) (.pk 7) (LBt P E k p s3 s4 s5 (some (wy w, .fr)) (some (.str z, .fr)) none) = some ((.int (P.idxOf z : Nat), false), LBt P E k p s3 s4 s5 (some (wy w, .fr)) (some (.str z, .fr)) none) := by
        unfold indexM
        rw [vm_fr (t := wP P) rfl]
        simp only [opsM, LBt, rget, List.getD_cons_zero, List.getD_cons_succ, resolves, resolve, Option.map_some, h]
      have a3 := pkv (i := 1) (o1' := .fr) (w := .fr) (t := .tup k (nT p)) a2 rfl rfl h2
      have := turn_if (cond := yesM) (vs := [7]) (b := true) (ρw := LBt P E k p s3 s4 s5 (some (wy w, .fr)) none none) rfl a3 rfl
      simpa using this⟩)
  rw [c1]
  simp only [colT, nT, inner, List.map_map]
  rfl
theorem lrows_eq {P : List Str} {E : List (Str × Str)} {k : Bool} {p : List Nat} {x y : Str} {ord : List (List Str)} {s5 : Option (T × Own)} (hp : p.length = P.length) (ew : g__law_ways [wL P E, .str x, .str y] = some (.lst (tW ord), true)) (ho : ord.length ≤ 13716864) (hw : ∀ w ∈ ord, w ≠ [] ∧ w.length ≤ 6 ∧ ∀ z ∈ w, z ∈ P) :
    compM (srcM (storeM [.val (varM 0), .val (varM 3), .val (varM 4)] g__law_ways)) (.nm 6) yesM (compM (srcM (primM [.pk 6] (gSlC 1 (-1)))) (.nm 7) yesM (primM [.pk 1, .val (indexM (varM 2) (.pk 7))] gIx) [7]) [6] (LBt P E k p (some (.str x, .fr)) (some (.str y, .fr)) s5 none none none) = some ((.lst ((ord.map (inner P)).map (colT p)), true), LBt P E k p (some (.str x, .fr)) (some (.str y, .fr)) s5 none none none) := by
  have c1 := comp_all (ρ := LBt P E k p (some (.str x, .fr)) (some (.str y, .fr)) s5 none none none) (ρ1 := LBt P E k p (some (.str x, .fr)) (some (.str y, .fr)) s5 none none none) (ρw := LBt P E k p (some (.str x, .fr)) (some (.str y, .fr)) s5 none none none)
    (src := srcM (storeM [.val (varM 0), .val (varM 3), .val (varM 4)] g__law_ways)) (tg := .nm 6) (cnd := yesM) (elt := compM (srcM (primM [.pk 6] (gSlC 1 (-1)))) (.nm 7) yesM (primM [.pk 1, .val (indexM (varM 2) (.pk 7))] gIx) [7]) (vs := [6]) (F := wy) (G := fun w => colT p (inner P w)) (l := ord)
    (src_ll (b := true) (by simp only [storeM, opsM, varM, letgo, LBt, rget, List.getD_cons_zero, List.getD_cons_succ, vals, ew])) rfl (by simp only [lim_val]; omega)
    (fun w hw' => ⟨LBt P E k p (some (.str x, .fr)) (some (.str y, .fr)) s5 (some (wy w, .fr)) none none, rfl, by
      obtain ⟨h1, h2, h3⟩ := hw w hw'
      have h := lrow_eq (E := E) (k := k) (s3 := some (.str x, .fr)) (s4 := some (.str y, .fr)) (s5 := s5) hp h1 h2 h3
      have := turn_if (cond := yesM) (vs := [6]) (b := true) (ρw := LBt P E k p (some (.str x, .fr)) (some (.str y, .fr)) s5 none none none) rfl h rfl
      simpa using this⟩)
  rw [c1, List.map_map]
  rfl
theorem dOkL_col {n : Nat} {p : List Nat} : ∀ {l : List (List Nat)}, dOkL (n + 1) (l.map (colT p)) = true
  | [] => rfl
  | x :: l => by
    have := dOkL_col (n := n) (p := p) (l := l)
    simp only [List.map_cons] at this ⊢
    unfold dOkL
    rw [this]
    have : dOk (n + 1) (colT p x) = dOkL n (nT (x.map fun i => p.getD i 0)) := rfl
    rw [this, dOkL_nT]
    rfl
theorem eq_nilCol {p : List Nat} {l : List (List Nat)} : gEq [.lst (l.map (colT p)), .lst []] = some (.bl (decide (l = [])), false) := by
  simp only [gEq]
  rw [if_pos ⟨by show dOkL 11 (l.map (colT p)) = true; exact dOkL_col, rfl⟩]
  simp only [teq]
  rw [teqL_nil]
  cases l <;> simp
theorem law_bright_eq {P : List Str} {E : List (Str × Str)} {k : Bool} {p : List Nat} (hP : P.length ≤ 6) (hE : EdgesIn E P) (hp : p.length = P.length) : g__law_bright [wL P E, .tup k (nT p)] = some (.bl (brtP P E p), false) := by
  have hpl := lpairs_len (l := P) hP
  refine fnG_of rfl ?_
  unfold m__law_bright
  refine go_seq (go_of (x := (.nx, LBt P E k p none none none none none none)) (asg_nio (s := none) (pkc rfl wL0) rfl nio_none (by simp [start0])) ?_)
  have hsrc : srcM (storeM [.val (varM 2)] g__law_pairs) (LBt P E k p none none none none none none) = some ((lpairs P P).map pr, LBt P E k p none none none none none none) := src_ll (b := true) (st1 (vm_fr rfl) (law_pairs_eq hP))
  refine go_seq (go_for hsrc ?_)
  refine go_loopM (J := fun done rest ρ => ∃ s3 s4 s5, ρ = LBt P E k p s3 s4 s5 none none none ∧ Nio s3 ∧ Nio s4 ∧ Nio s5 ∧ ∀ e ∈ done, ∃ w, Path E e.1 w e.2 ∧ unl p (inner P w) = true) ?_ ?_ ⟨none, none, none, rfl, nio_none, nio_none, nio_none, by simp⟩
  · rintro ρ ⟨s3, s4, s5, rfl, _, _, _, h⟩
    have : brtP P E p = true := brtP_iff.mpr fun x hx y hy hxy => h (x, y) (mem_lpairs.mpr ⟨hx, hy, hxy⟩)
    rw [this]
    exact go_ret ⟨_, rfl, rfl⟩
  · rintro done e rest ρ hl ⟨s3, s4, s5, rfl, n3, n4, n5, h⟩
    have he : e ∈ lpairs P P := by rw [hl]; simp
    obtain ⟨h1, h2, h3⟩ := mem_lpairs.mp he
    obtain ⟨ord, ew, ho, hol⟩ := law_ways_eq (a := e.1) (b := e.2) hP hE h1
    refine ⟨LBt P E k p (some (.str e.1, .fr)) (some (.str e.2, .fr)) s5 none none none, ?_, ?_⟩
    · simp only [tgM, pr, setAll]
      rw [setM_nio (s := s3) rfl n3 (by simp [LBt])]
      simp only
      rw [setM_nio (s := s4) (by simp [LBt, rget]) n4 (by simp [LBt])]
      rfl
    have c1 := lrows_eq (k := k) (s5 := s5) hp ew hol fun w hw => ⟨((ho w).mp hw).ne, Nat.le_trans (((ho w).mp hw).len hE h1) hP, ((ho w).mp hw).inP hE h1⟩
    refine go_seq (go_of (x := (.nx, LBt P E k p (some (.str e.1, .fr)) (some (.str e.2, .fr)) (some (.lst ((ord.map (inner P)).map (colT p)), .ow)) none none none)) (asg_nio (s := s5) c1 rfl n5 (by simp [LBt])) ?_)
    have c2 := comp_map (ρ := LBt P E k p (some (.str e.1, .fr)) (some (.str e.2, .fr)) (some (.lst ((ord.map (inner P)).map (colT p)), .ow)) none none none) (ρ1 := LBt P E k p (some (.str e.1, .fr)) (some (.str e.2, .fr)) (some (.lst ((ord.map (inner P)).map (colT p)), .fr)) none none none) (ρw := LBt P E k p (some (.str e.1, .fr)) (some (.str e.2, .fr)) (some (.lst ((ord.map (inner P)).map (colT p)), .fr)) none none none)
      (src := srcM (varM 5)) (tg := .nm 8) (cnd := primM [.val (primM [.pk 8] gLenSetG), .val (primM [.pk 8] gLen)] gEq) (elt := varM 8) (vs := [8]) (F := colT p) (G := colT p) (l := ord.map (inner P)) (p := fun sp => unl p sp)
      (src_var (o := .ow) rfl ow_io rfl) rfl (by simp only [List.length_map, lim_val]; omega)
      (fun sp hsp => ⟨LBt P E k p (some (.str e.1, .fr)) (some (.str e.2, .fr)) (some (.lst ((ord.map (inner P)).map (colT p)), .fr)) none none (some (colT p sp, .fr)), rfl, by
        obtain ⟨w, hw, rfl⟩ := List.mem_map.mp hsp
        have hwl := Nat.le_trans (((ho w).mp hw).len hE h1) hP
        have hin : (inner P w).length ≤ 6 := by
          unfold inner
          rw [List.length_map]
          exact Nat.le_trans (List.dropLast_sublist _).length_le (Nat.le_trans (List.tail_sublist w).length_le hwl)
        have b1 : gLenSetG [colT p (inner P w)] = some (.int (nset (((inner P w).map fun i => p.getD i 0).map fun i : Nat => (i : Int)) : Nat), false) := by
          simp only [gLenSetG, colT]
          rw [show nT ((inner P w).map fun i => p.getD i 0) = (((inner P w).map fun i => p.getD i 0).map fun i : Nat => T.int (i : Nat)) from rfl, intsOf_nat]
          simp only
          rw [if_pos (by simp only [List.length_map]; omega)]
        have b2 : gLen [colT p (inner P w)] = some (.int ((((inner P w).map fun i => p.getD i 0).length : Nat)), false) := by
          simp [gLen, colT]
        have b3 := eq_int (i := (nset (((inner P w).map fun i => p.getD i 0).map fun i : Nat => (i : Int)) : Nat)) (j := (((inner P w).map fun i => p.getD i 0).length : Nat))
        rw [nset_nat] at b3
        exact turn_if (pm2 (pk1 rfl b1) (pk1 rfl b2) b3) (vm_fr rfl) rfl⟩)
    have e2 : storeM [] gMkL (LBt P E k p (some (.str e.1, .fr)) (some (.str e.2, .fr)) (some (.lst ((ord.map (inner P)).map (colT p)), .fr)) none none none) = some ((.lst [], true), LBt P E k p (some (.str e.1, .fr)) (some (.str e.2, .fr)) (some (.lst ((ord.map (inner P)).map (colT p)), .fr)) none none none) := by
      simp only [storeM, opsM, vals, mkL0]
    have c3 := pm2 c2 e2 eq_nilCol
    refine go_if c3 ?_
    by_cases hz : (ord.map (inner P)).filter (fun sp => unl p sp) = []
    · rw [decide_eq_true hz, cond_true]
      have : brtP P E p = false := by
        rw [← Bool.not_eq_true, brtP_iff]
        intro q
        obtain ⟨w, hw, hu⟩ := q e.1 h1 e.2 h2 h3
        rw [List.filter_eq_nil_iff] at hz
        exact hz _ (List.mem_map.mpr ⟨w, (ho w).mpr hw, rfl⟩) hu
      rw [this]
      exact go_ret ⟨_, rfl, rfl⟩
    · rw [decide_eq_false hz, cond_false]
      refine ⟨_, rfl, _, _, _, rfl, nio_fr, nio_fr, nio_fr, fun e' he' => ?_⟩
      rcases List.mem_append.mp he' with q | q
      · exact h e' q
      · rw [List.mem_singleton.mp q]
        obtain ⟨sp, hsp⟩ := List.exists_mem_of_ne_nil _ hz
        obtain ⟨m1, m2⟩ := List.mem_filter.mp hsp
        obtain ⟨w, hw, rfl⟩ := List.mem_map.mp m1
        exact ⟨w, (ho w).mp hw, m2⟩
end Rv
end

section
set_option Elab.async false
set_option autoImplicit false
set_option linter.all false
set_option maxRecDepth 100000
set_option maxHeartbeats 400000
namespace Rv
open PySem PySem.Spec L2 LamX NdefX
open PyProof.Rows hiding St
theorem vpk {f : M} {g : List T → Option Res} {ρ ρ1 : Rho} {t1 t2 : T} {o : Bool} {w : Own} {s : Res} {i : Nat} (h1 : f ρ = some ((t1, o), ρ1)) (h2 : rget ρ1 i = some (t2, w)) (h : g [t1, t2] = some s) : primM [.val f, .pk i] g ρ = some (s, ρ1) := by
  simp only [primM, opsM, h1, h2, resolves, resolve, Option.map_some, h]
theorem ite_b {c a b : M} {ρ ρ1 : Rho} {q : Bool} (h : c ρ = some ((.bl q, false), ρ1)) : iteM c a b ρ = cond q (a ρ1) (b ρ1) := by
  unfold iteM
  rw [h]
  cases q <;> rfl
/-! ### rows of colours, all grown -/
abbrev rwT (L : List (List Nat × Nat)) : T := .lst (L.map fun x => ptT x.1)
theorem ne_nilN {l : List Nat} : gNe [ptT l, .tup false []] = some (.bl (!decide (l = [])), false) := by
  simp only [gNe]
  rw [if_pos ⟨by show dOkL 11 (nT l) = true; exact dOkL_nT, rfl⟩]
  simp only [teq]
  rw [teqL_nil]
  cases l <;> simp
theorem max_nT {l : List Nat} (h : l ≠ []) : gMax1 [ptT l] = some (.int (topI (l.map fun i : Nat => (i : Int))), false) := by
  simp only [gMax1]
  rw [show nT l = (l.map fun i : Nat => T.int (i : Nat)) from rfl, intsOf_nat]
  simp only
  rw [if_pos (by simpa using h)]
theorem addE_nT {l : List Nat} {c : Nat} (h : l.length ≤ 1000) : gAddE [ptT l, .tup false [.int (c : Nat)]] = some (ptT (l ++ [c]), false) := by
  cases l with
  | nil => rfl
  | cons x l =>
    have e : gAddE [.tup false (T.int (x : Nat) :: nT l), .tup false [.int (c : Nat)]] = some (.tup false (T.int (x : Nat) :: nT l ++ [T.int (c : Nat)]), false) := by
      simp only [gAddE]
      rw [if_pos (by simp only [List.length_map, List.length_nil, lim_val]; simp only [List.length_cons] at h; omega)]
    have e2 : ptT (x :: l ++ [c]) = .tup false (T.int (x : Nat) :: nT l ++ [T.int (c : Nat)]) := by simp [ptT, nT]
    rw [e2]
    exact e
def GR (n m : Nat) (L : List (List Nat × Nat)) (o : Own) (s3 s4 s5 s6 : Option (T × Own)) : Rho := [some (.int (n : Nat), .fr), some (.int (m : Nat), .fr), some (rwT L, o), s3, s4, s5, s6, none]
abbrev kids (m : Nat) (x : List Nat × Nat) : List (List Nat × Nat) := (List.range (min (x.2 + 1) m)).map fun c => (x.1 ++ [c], max x.2 (c + 1))
theorem grown_new {n m k : Nat} {L : List (List Nat × Nat)} {x : List Nat × Nat} {s3 s4 s6 : Option (T × Own)} (hx : x ∈ pc m k) (n6 : Nio s6) : asgM 6 (iteM (primM [.pk 5, .val (storeM [] gMkT)] gNe) (primM [.val (primM [.pk 5] gMax1), .val (conM (.int 1))] gAdd) (conM (.int 0))) (GR n m L .fr s3 s4 (some (ptT x.1, .fr)) s6) = some (.nx, GR n m L .fr s3 s4 (some (ptT x.1, .fr)) (some (.int (x.2 : Nat), .fr))) := by
  have e1 : primM [.pk 5, .val (storeM [] gMkT)] gNe (GR n m L .fr s3 s4 (some (ptT x.1, .fr)) s6) = some ((.bl (!decide (x.1 = [])), false), GR n m L .fr s3 s4 (some (ptT x.1, .fr)) s6) := by
    have := ne_nilN (l := x.1)
    simp only [primM, opsM, storeM, mkT0, vals, GR, rget, List.getD_cons_zero, List.getD_cons_succ, resolves, resolve, Option.map_some, this]
  have e2 : iteM (primM [.pk 5, .val (storeM [] gMkT)] gNe) (primM [.val (primM [.pk 5] gMax1), .val (conM (.int 1))] gAdd) (conM (.int 0)) (GR n m L .fr s3 s4 (some (ptT x.1, .fr)) s6) = some ((.int (x.2 : Nat), false), GR n m L .fr s3 s4 (some (ptT x.1, .fr)) s6) := by
    rw [ite_b e1]
    by_cases h : x.1 = []
    · rw [decide_eq_true h, pc_nil hx h]
      rfl
    · rw [decide_eq_false h]
      have := prim_c (c := .int 1) (pk1 (ρ := GR n m L .fr s3 s4 (some (ptT x.1, .fr)) s6) (i := 5) rfl (max_nT h)) add_i
      rw [pc_top hx h] at this
      exact this
  rw [asg_nio (s := s6) e2 rfl n6 (by simp [GR])]
  rfl
theorem grown_more {n m k : Nat} {L M : List (List Nat × Nat)} {x : List Nat × Nat} {s3 : Option (T × Own)} (hm : m ≤ 9) (hx : x ∈ pc m k) (hk : k ≤ 6) (hM : M.length ≤ 600000) : asgM 4 (primM [.pk 4, .val (compM (rng1M (.val (primM [.val (primM [.pk 6, .val (conM (.int 1))] gAdd), .pk 1] gMin2))) (.nm 7) yesM (primM [.pk 5, .val (storeM [.val (varM 7)] gMkT)] gAddE) [7])] gAdd) (GR n m L .fr s3 (some (rwT M, .ow)) (some (ptT x.1, .fr)) (some (.int (x.2 : Nat), .fr))) = some (.nx, GR n m L .fr s3 (some (rwT (M ++ kids m x), .ow)) (some (ptT x.1, .fr)) (some (.int (x.2 : Nat), .fr))) := by
  have hl := (pc_mem hx).1
  have hr := rng_r62 (n := min (x.2 + 1) m) (by omega)
  have e1 : primM [.val (primM [.pk 6, .val (conM (.int 1))] gAdd), .pk 1] gMin2 (GR n m L .fr s3 (some (rwT M, .ow)) (some (ptT x.1, .fr)) (some (.int (x.2 : Nat), .fr))) = some ((.int ((min (x.2 + 1) m : Nat) : Int), false), GR n m L .fr s3 (some (rwT M, .ow)) (some (ptT x.1, .fr)) (some (.int (x.2 : Nat), .fr))) := vpk (i := 1) (pkc (i := 6) rfl add_i) rfl min2_eq
  have hsrc : rng1M (.val (primM [.val (primM [.pk 6, .val (conM (.int 1))] gAdd), .pk 1] gMin2)) (GR n m L .fr s3 (some (rwT M, .ow)) (some (ptT x.1, .fr)) (some (.int (x.2 : Nat), .fr))) = some ((List.range (min (x.2 + 1) m)).map (fun c : Nat => T.int (0 + (c : Nat))), GR n m L .fr s3 (some (rwT M, .ow)) (some (ptT x.1, .fr)) (some (.int (x.2 : Nat), .fr))) := by
    unfold rng1M
    simp only [opsM, e1, resolves, resolve, hr, if_true, Int.toNat_natCast, intsT]
  have c1 := comp_all (ρ := GR n m L .fr s3 (some (rwT M, .ow)) (some (ptT x.1, .fr)) (some (.int (x.2 : Nat), .fr))) (ρ1 := GR n m L .fr s3 (some (rwT M, .ow)) (some (ptT x.1, .fr)) (some (.int (x.2 : Nat), .fr))) (ρw := GR n m L .fr s3 (some (rwT M, .ow)) (some (ptT x.1, .fr)) (some (.int (x.2 : Nat), .fr)))
    (tg := .nm 7) (cnd := yesM) (elt := primM [.pk 5, .val (storeM [.val (varM 7)] gMkT)] gAddE) (vs := [7]) (F := fun c : Nat => T.int (0 + (c : Nat))) (G := fun c : Nat => ptT (x.1 ++ [c])) (l := List.range (min (x.2 + 1) m))
    hsrc rfl (lim_ge (by rw [List.length_range]; omega))
    (fun c hc => ⟨[some (.int (n : Nat), .fr), some (.int (m : Nat), .fr), some (rwT L, .fr), s3, some (rwT M, .ow), some (ptT x.1, .fr), some (.int (x.2 : Nat), .fr), some (.int (0 + (c : Nat)), .fr)], rfl, by
      have e0 : ((0 : Int) + (c : Int)) = (c : Int) := Int.zero_add _
      rw [e0]
      have a1 := st1 (vm_fr (ρ := [some (.int (n : Nat), .fr), some (.int (m : Nat), .fr), some (rwT L, .fr), s3, some (rwT M, .ow), some (ptT x.1, .fr), some (.int (x.2 : Nat), .fr), some (.int (c : Nat), .fr)]) (i := 7) rfl) (mkT1 (a := .int (c : Nat)))
      have a2 := pkv (i := 5) (o1' := .fr) (w := .fr) (t := ptT x.1) a1 rfl rfl (addE_nT (l := x.1) (c := c) (by omega))
      have := turn_if (cond := yesM) (vs := [7]) (b := true) (ρw := GR n m L .fr s3 (some (rwT M, .ow)) (some (ptT x.1, .fr)) (some (.int (x.2 : Nat), .fr))) rfl a2 rfl
      simpa using this⟩)
  have e2 : rwT (M ++ kids m x) = .lst ((M.map fun x => ptT x.1) ++ (List.range (min (x.2 + 1) m)).map fun c : Nat => ptT (x.1 ++ [c])) := by
    simp only [rwT, kids, List.map_append, List.map_map]
    rfl
  have c2 := pkv (i := 4) (o1' := .ow) (w := .ow) (t := rwT M) c1 rfl rfl (add_ll (l := M.map fun x => ptT x.1) (m := (List.range (min (x.2 + 1) m)).map fun c : Nat => ptT (x.1 ++ [c])) (by simp only [List.length_map, List.length_range, lim_val]; omega))
  rw [← e2] at c2
  rw [asg_nio (s := some (rwT M, .ow)) c2 rfl (fun o h => by cases h; simp) (by simp [GR])]
  rfl
theorem law_grown_eq {n m : Nat} (hn : n ≤ 6) (hm : m ≤ 9) : ∃ b, g__law_grown [.int (n : Nat), .int (m : Nat)] = some (rwT (pc m n), b) := by
  have bound : ∀ k, k ≤ 6 → (pc m k).length ≤ 531441 := fun k hk => Nat.le_trans pc_len (Nat.le_trans (Nat.pow_le_pow_left hm k) (Nat.le_trans (Nat.pow_le_pow_right (by decide) hk) (by decide)))
  suffices h : Go (m__law_grown (start0 8 [.int (n : Nat), .int (m : Nat)])) fun x => ∃ b, outR (some x) = some (rwT (pc m n), b) by
    obtain ⟨x, e, b, e2⟩ := h
    exact ⟨b, fnG_of rfl ⟨x, e, e2⟩⟩
  unfold m__law_grown
  refine go_seq ⟨(.nx, GR n m (pc m 0) .ow none none none none), by simp [GR, rget, pc], go_seq ?_⟩
  refine go_for (ts := (List.range n).map fun i : Nat => T.int (0 + (i : Nat))) (ρ1 := GR n m (pc m 0) .ow none none none none) (by
    have hr := rng_r62 (n := n) (by omega)
    simp [rng1M, GR, rget, hr, intsT]) ?_
  refine go_loopM (J := fun done rest ρ => ∃ o s3 s4 s5 s6, ρ = GR n m (pc m done.length) o s3 s4 s5 s6 ∧ o ≠ .io ∧ Nio s3 ∧ Nio s4 ∧ Nio s5 ∧ Nio s6) ?_ ?_ ⟨.ow, none, none, none, none, rfl, ow_io, nio_none, nio_none, nio_none, nio_none⟩
  · rintro ρ ⟨o, s3, s4, s5, s6, rfl, ho, _⟩
    rw [List.length_range]
    cases o with
    | io => exact absurd rfl ho
    | fr => exact ⟨(.rt (rwT (pc m n), false), _), rfl, false, rfl⟩
    | ow => exact ⟨(.rt (rwT (pc m n), true), _), rfl, true, rfl⟩
  · rintro done i rest ρ hl ⟨o, s3, s4, s5, s6, rfl, ho, n3, n4, n5, n6⟩
    have hd : done.length < n := by
      have := congrArg List.length hl
      simp only [List.length_append, List.length_cons, List.length_range] at this
      omega
    have hb := bound done.length (by omega)
    have hb2 := bound (done.length + 1) (by omega)
    refine ⟨GR n m (pc m done.length) o (some (.int (0 + (i : Nat)), .fr)) s4 s5 s6, by simp only [tgM]; rw [setM_nio (s := s3) rfl n3 (by simp [GR])]; rfl, ?_⟩
    have e4 : asgM 4 (storeM [] gMkL) (GR n m (pc m done.length) o (some (.int (0 + (i : Nat)), .fr)) s4 s5 s6) = some (.nx, GR n m (pc m done.length) o (some (.int (0 + (i : Nat)), .fr)) (some (rwT [], .ow)) s5 s6) := by
      have e : storeM [] gMkL (GR n m (pc m done.length) o (some (.int (0 + (i : Nat)), .fr)) s4 s5 s6) = some ((.lst [], true), GR n m (pc m done.length) o (some (.int (0 + (i : Nat)), .fr)) s4 s5 s6) := by
        simp only [storeM, opsM, vals, mkL0]
      rw [asg_nio (s := s4) e rfl n4 (by simp [GR])]
      rfl
    refine go_seq (go_of e4 (go_seq ?_))
    refine go_for (ts := (pc m done.length).map fun x => ptT x.1) (ρ1 := GR n m (pc m done.length) .fr (some (.int (0 + (i : Nat)), .fr)) (some (rwT [], .ow)) s5 s6) (src_var (o := o) rfl ho (by cases o <;> first | rfl | exact absurd rfl ho)) ?_
    refine go_loopM (J := fun dn rest ρ => ∃ s5 s6, ρ = GR n m (pc m done.length) .fr (some (.int (0 + (i : Nat)), .fr)) (some (rwT (dn.flatMap (kids m)), .ow)) s5 s6 ∧ Nio s5 ∧ Nio s6) ?_ ?_ ⟨s5, s6, rfl, n5, n6⟩
    · rintro ρ ⟨s5, s6, rfl, n5, n6⟩
      refine ⟨(.nx, GR n m (pc m (done.length + 1)) .fr (some (.int (0 + (i : Nat)), .fr)) (some (rwT (pc m (done.length + 1)), .fr)) s5 s6), rfl, .fr, _, _, _, _, by rw [List.length_append]; rfl, fr_io, nio_fr, nio_fr, n5, n6⟩
    · rintro dn x rest2 ρ hl2 ⟨s5, s6, rfl, n5, n6⟩
      have hx : x ∈ pc m done.length := by rw [hl2]; simp
      refine ⟨GR n m (pc m done.length) .fr (some (.int (0 + (i : Nat)), .fr)) (some (rwT (dn.flatMap (kids m)), .ow)) (some (ptT x.1, .fr)) s6, by simp only [tgM]; rw [setM_nio (s := s5) rfl n5 (by simp [GR])]; rfl, ?_⟩
      refine go_seq (go_of (grown_new hx n6) ?_)
      have hM : (dn.flatMap (kids m)).length ≤ 600000 := by
        have e : pc m (done.length + 1) = (dn.flatMap (kids m)) ++ (x :: rest2).flatMap (kids m) := by
          rw [← List.flatMap_append, ← hl2]
          rfl
        rw [e, List.length_append] at hb2
        omega
      refine go_of (grown_more hm hx (by omega) hM) ⟨_, _, by rw [List.flatMap_append, List.flatMap_cons, List.flatMap_nil, List.append_nil], nio_fr, nio_fr⟩
/-! ### the fewest, the first of so few -/
theorem intsOf_u : ∀ {L : List (List Nat × Nat)}, intsOf (L.map fun x => T.int (x.2 : Nat)) = some (L.map fun x => (x.2 : Int))
  | [] => rfl
  | x :: L => by
    simp only [List.map_cons, intsOf]
    rw [intsOf_u]
    rfl
theorem law_first_eq {L : List (List Nat × Nat)} (hL : L ≠ []) (hl : L.length ≤ 1000000) (h : ∀ x ∈ L, x.1 ≠ [] ∧ topI (x.1.map fun i : Nat => (i : Int)) + 1 = (x.2 : Int)) :
    ∃ (few : Nat) (p : List Nat) (u : Nat) (t : List (List Nat × Nat)), g__law_first [rwT L] = some (.tup false [.int (few : Nat), ptT p], false) ∧ (∀ x ∈ L, few ≤ x.2) ∧ L.filter (fun x => decide (x.2 = few)) = (p, u) :: t := by
  have hne : (L.map fun x => (x.2 : Int)) ≠ [] := by simpa using hL
  obtain ⟨x0, hx0, e0⟩ := List.mem_map.mp (lowI_mem hne)
  have hmin : ∀ x ∈ L, x0.2 ≤ x.2 := fun x hx => by
    have := lowI_le (l := L.map fun x => (x.2 : Int)) (List.mem_map.mpr ⟨x, hx, rfl⟩)
    rw [← e0] at this
    omega
  have hmem : x0 ∈ L.filter fun x => decide (x.2 = x0.2) := List.mem_filter.mpr ⟨hx0, by simp⟩
  obtain ⟨y, t, hy⟩ := List.exists_cons_of_ne_nil (List.ne_nil_of_mem hmem)
  refine ⟨x0.2, y.1, y.2, t, ?_, hmin, hy⟩
  have c1 := comp_all (ρ := [some (rwT L, .fr), none, none]) (ρ1 := [some (rwT L, .fr), none, none]) (ρw := [some (rwT L, .fr), none, none])
    (src := srcM (varM 0)) (tg := .nm 2) (cnd := yesM) (elt := primM [.val (primM [.pk 2] gMax1), .val (conM (.int 1))] gAdd) (vs := [2]) (F := fun x : List Nat × Nat => ptT x.1) (G := fun x => T.int (x.2 : Nat)) (l := L)
    (src_seq (t := rwT L) (.inl rfl) rfl) rfl (lim_ge hl)
    (fun x hx => ⟨[some (rwT L, .fr), none, some (ptT x.1, .fr)], rfl, by
      have := prim_c (c := .int 1) (pk1 (ρ := [some (rwT L, .fr), none, some (ptT x.1, .fr)]) (i := 2) rfl (max_nT (h x hx).1)) add_i
      rw [(h x hx).2] at this
      have := turn_if (cond := yesM) (vs := [2]) (b := true) (ρw := [some (rwT L, .fr), none, none]) rfl this rfl
      simpa using this⟩)
  have c2 := prim1 (g := gMin1) (s := (.int (x0.2 : Nat), false)) c1 (by
    simp only [gMin1]
    rw [intsOf_u]
    simp only
    rw [if_pos hne, ← e0])
  refine fnG_of rfl ?_
  unfold m__law_first
  refine go_seq (go_of (x := (.nx, [some (rwT L, .fr), some (.int (x0.2 : Nat), .fr), none])) (asg_nio (s := none) c2 rfl nio_none (by simp)) ?_)
  have c3 := comp_map (ρ := [some (rwT L, .fr), some (.int (x0.2 : Nat), .fr), none]) (ρ1 := [some (rwT L, .fr), some (.int (x0.2 : Nat), .fr), none]) (ρw := [some (rwT L, .fr), some (.int (x0.2 : Nat), .fr), none])
    (src := srcM (varM 0)) (tg := .nm 2) (cnd := primM [.val (primM [.val (primM [.pk 2] gMax1), .val (conM (.int 1))] gAdd), .pk 1] gEq) (elt := varM 2) (vs := [2]) (F := fun x : List Nat × Nat => ptT x.1) (G := fun x => ptT x.1) (l := L) (p := fun x => decide (x.2 = x0.2))
    (src_seq (t := rwT L) (.inl rfl) rfl) rfl (lim_ge hl)
    (fun x hx => ⟨[some (rwT L, .fr), some (.int (x0.2 : Nat), .fr), some (ptT x.1, .fr)], rfl, by
      have a1 := prim_c (c := .int 1) (pk1 (ρ := [some (rwT L, .fr), some (.int (x0.2 : Nat), .fr), some (ptT x.1, .fr)]) (i := 2) rfl (max_nT (h x hx).1)) add_i
      rw [(h x hx).2] at a1
      have a2 := vpk (i := 1) a1 rfl (eq_int (i := (x.2 : Nat)) (j := (x0.2 : Nat)))
      rw [nat_dec] at a2
      exact turn_if a2 (vm_fr rfl) rfl⟩)
  rw [hy] at c3
  have c4 := prim_c (c := .int 0) c3 (ix0 (t := .lst (((y :: t).map fun x => ptT x.1))) (x := ptT y.1) (l := t.map fun x => ptT x.1) (.inl rfl))
  refine go_ret (go_of (st2 (vm_fr (i := 1) (ρ := [some (rwT L, .fr), some (.int (x0.2 : Nat), .fr), none]) rfl) c4 mkT2) rfl)
end Rv
end

section
set_option Elab.async false
set_option autoImplicit false
set_option linter.all false
set_option maxRecDepth 100000
set_option maxHeartbeats 400000
namespace Rv
open PySem PySem.Spec L2 LamX NdefX
open PyProof.Rows hiding St
/-! ### how far all places are -/
abbrev dKeys (D : List (Str × Nat)) : List Key := D.map fun e => Sum.inr e.1
abbrev DT (D : List (Str × Nat)) : T := .dic (dKeys D) (D.map fun e => T.int (e.2 : Nat))
theorem hasK_D {D : List (Str × Nat)} {y : Str} : hasK (dKeys D) (.inr y) = decide (∃ e ∈ D, e.1 = y) := by
  unfold hasK
  rw [List.any_map]
  by_cases h : ∃ e ∈ D, e.1 = y
  · rw [decide_eq_true h, List.any_eq_true]
    obtain ⟨e, he, rfl⟩ := h
    exact ⟨e, he, by simp⟩
  · rw [decide_eq_false h, List.any_eq_false]
    intro x hx
    simp only [Function.comp, decide_eq_true_eq]
    intro e
    cases e
    exact h ⟨x, hx, rfl⟩
theorem ninK_D {D : List (Str × Nat)} {y : Str} : gInK true [.str y, DT D] = some (.bl (!decide (∃ e ∈ D, e.1 = y)), false) := by
  simp only [gInK, kOf]
  rw [hasK_D]
  simp
theorem atK_D : ∀ {D : List (Str × Nat)} {x : Str} {k : Nat}, (D.map (·.1)).Nodup → (x, k) ∈ D → atK (dKeys D) (D.map fun e => T.int (e.2 : Nat)) (.inr x) = some (.int (k : Nat))
  | [], x, k, _, h => nomatch h
  | e :: D, x, k, hn, h => by
    rw [List.map_cons, List.nodup_cons] at hn
    simp only [List.map_cons, atK]
    rcases List.mem_cons.mp h with rfl | h
    · simp
    · have hne : e.1 ≠ x := fun q => hn.1 (List.mem_map.mpr ⟨(x, k), h, q.symm⟩)
      have hd : decide ((Sum.inr e.1 : Key) = Sum.inr x) = false := decide_eq_false fun q => by injection q with q; exact hne q
      have ih := atK_D hn.2 h
      simp only [atK] at ih
      simp only [List.zip_cons_cons, List.find?_cons, hd]
      exact ih
theorem dget_D {D : List (Str × Nat)} {x : Str} {k : Nat} (hn : (D.map (·.1)).Nodup) (h : (x, k) ∈ D) : gDGet [DT D, .str x] = some (.int (k : Nat), false) := by
  simp only [gDGet, kOf]
  rw [atK_D hn h]
  rfl
theorem dput_D {D : List (Str × Nat)} {y : Str} {k : Nat} (hl : D.length ≤ 1000) (h : ¬ ∃ e ∈ D, e.1 = y) : gDPut (DT D) [(.int (k : Nat), false), (.str y, false)] = some (DT (D ++ [(y, k)]), .non) := by
  have hk : hasK (dKeys D) (.inr y) = false := by
    rw [hasK_D]
    exact decide_eq_false h
  simp only [gDPut, kOf, putL, hk]
  rw [if_pos (by simp only [List.length_map, lim_val]; omega)]
  simp
def FR (P : List Str) (E : List (Str × Str)) (p : Str) (D : List (Str × Nat)) (line : List Str) (o3 : Own) (s4 s5 s6 : Option (T × Own)) : Rho :=
  [some (wV P E, .fr), some (.str p, .fr), some (DT D, .ow), some (.lst (tS line), o3), s4, s5, s6]
theorem bf_len {P : List Str} {D : List (Str × Nat)} (hn : (D.map (·.1)).Nodup) (hP : ∀ e ∈ D, e.1 ∈ P) : D.length ≤ P.length := by
  have := nodup_le hn (m := P) fun x hx => by
    obtain ⟨e, he, rfl⟩ := List.mem_map.mp hx
    exact hP e he
  rwa [List.length_map] at this
theorem far_from_eq {P : List Str} {E : List (Str × Str)} {p : Str} (hP : P.length ≤ 6) (hE : EdgesIn E P) (h9 : E.length ≤ 9) (hp : p ∈ P) :
    ∃ (D : List (Str × Nat)) (k : Nat), g_far_from [wV P E, .str p] = some (DT D, true) ∧ BF E P p k D [] := by
  suffices h : Go (m_far_from (start0 7 [wV P E, .str p])) fun x => ∃ (D : List (Str × Nat)) (k : Nat), outR (some x) = some (DT D, true) ∧ BF E P p k D [] by
    obtain ⟨x, e, D, k, e2, q⟩ := h
    exact ⟨D, k, fnG_of rfl ⟨x, e, e2⟩, q⟩
  unfold m_far_from
  refine go_seq ⟨(.nx, FR P E p [(p, 0)] [p] .ow none none none), by simp [parM, dispM, rget, kOf, FR, tS], go_seq ?_⟩
  refine go_while (I := fun n ρ => ∃ k D line o3 s4 s5 s6, ρ = FR P E p D line o3 s4 s5 s6 ∧ o3 ≠ .io ∧ Nio s4 ∧ Nio s5 ∧ Nio s6 ∧ BF E P p k D line ∧ n = 2 * (P.length - D.length) + (if line = [] then 0 else 1) ∧ n ≤ 100) ?_ 1000000 _ _ ?_ ⟨0, [(p, 0)], [p], .ow, none, none, none, rfl, ow_io, nio_none, nio_none, nio_none, BF.start hp, rfl, by simp; omega⟩
  · rintro n ρ ⟨k, D, line, o3, s4, s5, s6, rfl, ho, n4, n5, n6, hb, rfl, hn⟩
    refine ⟨!decide (line = []), FR P E p D line o3 s4 s5 s6, by simp [FR, rget, ne_nil], fun hd => ?_, fun hd => ?_⟩
    · have hl : line = [] := by simpa using hd
      subst hl
      exact ⟨(.rt (DT D, true), _), rfl, D, k, rfl, hb⟩
    · have hl : line ≠ [] := by simpa using hd
      have e4 : asgM 4 (storeM [] gMkL) (FR P E p D line o3 s4 s5 s6) = some (.nx, FR P E p D line o3 (some (.lst (tS []), .ow)) s5 s6) := by
        have e : storeM [] gMkL (FR P E p D line o3 s4 s5 s6) = some ((.lst [], true), FR P E p D line o3 s4 s5 s6) := by
          simp only [storeM, opsM, vals, mkL0]
        rw [asg_nio (s := s4) e rfl n4 (by simp [FR])]
        rfl
      refine go_seq (go_of e4 (go_seq ?_))
      refine go_for (ts := line.map T.str) (ρ1 := FR P E p D line .fr (some (.lst (tS []), .ow)) s5 s6) (src_var (o := o3) rfl ho (by cases o3 <;> first | rfl | exact absurd rfl ho)) ?_
      refine go_loopM (J := fun done rest ρ => ∃ D1 later s5 s6, ρ = FR P E p D1 line .fr (some (.lst (tS later), .ow)) s5 s6 ∧ Nio s5 ∧ Nio s6 ∧ BG E P p k D1 line done [] later ∧ D1.length = D.length + later.length) ?_ ?_ ⟨D, [], s5, s6, rfl, n5, n6, hb.begin, by simp⟩
      · rintro ρ ⟨D1, later, s5, s6, rfl, n5, n6, hg, hlen⟩
        have hD1 := bf_len hg.nd hg.inP
        refine ⟨(.nx, FR P E p D1 later .fr (some (.lst (tS later), .fr)) s5 s6), rfl, 2 * (P.length - D1.length) + (if later = [] then 0 else 1), ?_, k + 1, D1, later, .fr, _, _, _, rfl, fr_io, nio_fr, n5, n6, hg.end, rfl, ?_⟩
        · rw [if_neg hl]
          by_cases q : later = []
          · rw [if_pos q, hlen, q]
            simp
          · rw [if_neg q]
            have := List.length_pos_iff.mpr q
            omega
        · split <;> omega
      · rintro done x rest ρ hl2 ⟨D1, later, s5, s6, rfl, n5, n6, hg, hlen⟩
        have hx : x ∈ line := by rw [hl2]; simp
        refine ⟨FR P E p D1 line .fr (some (.lst (tS later), .ow)) (some (.str x, .fr)) s6, by simp only [tgM]; rw [setM_nio (s := s5) rfl n5 (by simp [FR])]; rfl, ?_⟩
        have hsrc : srcM (storeM [.val (storeM [.val (varM 0)] (gProp 0 g_Web_ties)), .val (varM 5)] g_beside) (FR P E p D1 line .fr (some (.lst (tS later), .ow)) (some (.str x, .fr)) s6) = some ((nbrs E x).map T.str, FR P E p D1 line .fr (some (.lst (tS later), .ow)) (some (.str x, .fr)) s6) :=
          src_ll (b := true) (st2 (st1 (vm_fr rfl) ties_eq) (vm_fr rfl) (beside_eq (.inr ⟨_, rfl⟩) (lim_ge (by omega))))
        refine go_for hsrc ?_
        refine go_loopM (J := fun nb rest ρ => ∃ D2 later2 s6, ρ = FR P E p D2 line .fr (some (.lst (tS later2), .ow)) (some (.str x, .fr)) s6 ∧ Nio s6 ∧ BG E P p k D2 line done nb later2 ∧ D2.length = D.length + later2.length) ?_ ?_ ⟨D1, later, s6, rfl, n6, hg, hlen⟩
        · rintro ρ ⟨D2, later2, s6, rfl, n6, hg2, hlen2⟩
          exact ⟨D2, later2, _, _, rfl, nio_fr, n6, hg2.shutAll, hlen2⟩
        · rintro nb y rest2 ρ hl3 ⟨D2, later2, s6, rfl, n6, hg2, hlen2⟩
          have hxy : adj E x y := mem_nbrs.mp (by rw [hl3]; simp)
          have hD2 := bf_len hg2.nd hg2.inP
          refine ⟨FR P E p D2 line .fr (some (.lst (tS later2), .ow)) (some (.str x, .fr)) (some (.str y, .fr)), by simp only [tgM]; rw [setM_nio (s := s6) rfl n6 (by simp [FR])]; rfl, ?_⟩
          have hc : primM [.pk 6, .pk 2] (gInK true) (FR P E p D2 line .fr (some (.lst (tS later2), .ow)) (some (.str x, .fr)) (some (.str y, .fr))) = some ((.bl (!decide (∃ e ∈ D2, e.1 = y)), false), FR P E p D2 line .fr (some (.lst (tS later2), .ow)) (some (.str x, .fr)) (some (.str y, .fr))) := pk2 rfl rfl ninK_D
          refine go_if hc ?_
          by_cases hy : ∃ e ∈ D2, e.1 = y
          · rw [decide_eq_true hy, Bool.not_true, cond_false]
            exact ⟨_, rfl, D2, later2, _, rfl, nio_fr, hg2.old hy, hlen2⟩
          · rw [decide_eq_false hy, Bool.not_false, cond_true]
            have hgn := hg2.new hx hxy hE hy
            have hg1 := dget_D hg2.nd (hg2.line1 x hx)
            have hv : primM [.val (primM [.pk 2, .pk 5] gDGet), .val (conM (.int 1))] gAdd (FR P E p D2 line .fr (some (.lst (tS later2), .ow)) (some (.str x, .fr)) (some (.str y, .fr))) = some ((.int ((k + 1 : Nat) : Int), false), FR P E p D2 line .fr (some (.lst (tS later2), .ow)) (some (.str x, .fr)) (some (.str y, .fr))) := prim_c (c := .int 1) (pk2 rfl rfl hg1) add_i
            have hput := dput_D (y := y) (k := k + 1) (by omega : D2.length ≤ 1000) hy
            have m1 : dropM (mutM 2 [.val (primM [.val (primM [.pk 2, .pk 5] gDGet), .val (conM (.int 1))] gAdd), .val (varM 6)] gDPut) (FR P E p D2 line .fr (some (.lst (tS later2), .ow)) (some (.str x, .fr)) (some (.str y, .fr))) = some (.nx, FR P E p (D2 ++ [(y, k + 1)]) line .fr (some (.lst (tS later2), .ow)) (some (.str x, .fr)) (some (.str y, .fr))) := by
              have hv2 : varM 6 (FR P E p D2 line .fr (some (.lst (tS later2), .ow)) (some (.str x, .fr)) (some (.str y, .fr))) = some ((.str y, false), FR P E p D2 line .fr (some (.lst (tS later2), .ow)) (some (.str x, .fr)) (some (.str y, .fr))) := rfl
              have hown : ownM (FR P E p D2 line .fr (some (.lst (tS later2), .ow)) (some (.str x, .fr)) (some (.str y, .fr))) 2 = some (DT D2, .ow) := rfl
              simp only [dropM, mutM, opsM, hown, hv, hv2, valsR, hput]
              rfl
            refine go_seq (go_of m1 ?_)
            have hap : gAppend (.lst (tS later2)) [(.str y, false)] = some (.lst (tS (later2 ++ [y])), .non) := by
              simp only [gAppend]
              rw [if_pos (by simp only [tS, List.length_map, lim_val]; omega)]
              simp [tS]
            refine ⟨(.nx, FR P E p (D2 ++ [(y, k + 1)]) line .fr (some (.lst (tS (later2 ++ [y])), .ow)) (some (.str x, .fr)) (some (.str y, .fr))), ?_, D2 ++ [(y, k + 1)], later2 ++ [y], _, rfl, nio_fr, hgn, by rw [List.length_append, List.length_append, hlen2, List.length_singleton, List.length_singleton, Nat.add_assoc]⟩
            simp [FR, mutTM, mutM, ownM, rget, tyT, valsR, hap]
  · simp
    omega
/-! ### the span -/
theorem topD {D : List (Str × Nat)} (h : D ≠ []) : gMaxV [DT D] = some (.int (topI (D.map fun e => (e.2 : Int))), false) := by
  have : ∀ {D : List (Str × Nat)}, intsOf (D.map fun e => T.int (e.2 : Nat)) = some (D.map fun e => (e.2 : Int)) := by
    intro D
    induction D with
    | nil => rfl
    | cons e D ih => simp only [List.map_cons, intsOf]; rw [ih]; rfl
  simp only [gMaxV]
  rw [this]
  simp only
  rw [if_pos (by simpa using h)]
theorem span_eq {P : List Str} {E : List (Str × Str)} (g : Good P E) : ∃ (s : Nat) (x y : Str), g_span [wV P E] = some (.int (s : Nat), false) ∧ x ∈ P ∧ y ∈ P ∧ ∀ j, Walk E x j y → s ≤ j := by
  have hP := g.l6
  have far : ∀ x, x ∈ P → ∃ (s : Nat) (y : Str), (∃ D, g_far_from [wV P E, .str x] = some (DT D, true) ∧ gMaxV [DT D] = some (.int (s : Nat), false)) ∧ y ∈ P ∧ ∀ j, Walk E x j y → s ≤ j := by
    intro x hx
    obtain ⟨D, k, e, hb⟩ := far_from_eq g.l6 g.inP g.e9 hx
    obtain ⟨e0, he0, _⟩ := hb.near 0 x (Nat.zero_le _) .zero
    have hD : D ≠ [] := List.ne_nil_of_mem he0
    have hm := topI_mem (l := D.map fun e => (e.2 : Int)) (by simpa using hD)
    obtain ⟨e1, he1, hs⟩ := List.mem_map.mp hm
    refine ⟨e1.2, e1.1, ⟨D, e, by rw [topD hD, ← hs]⟩, hb.inP e1 he1, fun j hw => ?_⟩
    obtain ⟨e2, he2, h1, h2⟩ := hb.fin j e1.1 hw
    have : e2 = e1 := by
      have hn := hb.nd
      exact nodup_inj hn he2 he1 h1
    rw [← this]
    exact h2
  obtain ⟨f, hf⟩ : ∃ f : Str → Nat × Str, ∀ x, x ∈ P → (∃ D, g_far_from [wV P E, .str x] = some (DT D, true) ∧ gMaxV [DT D] = some (.int ((f x).1 : Nat), false)) ∧ (f x).2 ∈ P ∧ ∀ j, Walk E x j (f x).2 → (f x).1 ≤ j := by
    classical
    refine ⟨fun x => if h : x ∈ P then (Classical.choose (far x h), Classical.choose (Classical.choose_spec (far x h))) else (0, x), fun x hx => ?_⟩
    simp only [dif_pos hx]
    exact Classical.choose_spec (Classical.choose_spec (far x hx))
  have c1 := comp_all (ρ := [some (wV P E, .fr), none]) (ρ1 := [some (wV P E, .fr), none]) (ρw := [some (wV P E, .fr), none])
    (src := srcM (storeM [.val (varM 0)] (gProp 0 g_Web_places))) (tg := .nm 1) (cnd := yesM) (elt := primM [.val (storeM [.val (varM 0), .val (varM 1)] g_far_from)] gMaxV) (vs := [1]) (F := T.str) (G := fun x => T.int ((f x).1 : Nat)) (l := P)
    (srcP (st1 (vm_fr rfl) places_eq)) rfl (lim_ge (by omega))
    (fun x hx => ⟨[some (wV P E, .fr), some (.str x, .fr)], rfl, by
      obtain ⟨⟨D, e1, e2⟩, _⟩ := hf x hx
      have := prim1 (st2 (vm_fr (ρ := [some (wV P E, .fr), some (.str x, .fr)]) (i := 0) rfl) (vm_fr (i := 1) rfl) e1) e2
      have := turn_if (cond := yesM) (vs := [1]) (b := true) (ρw := [some (wV P E, .fr), none]) rfl this rfl
      simpa using this⟩)
  have hne : (P.map fun x => ((f x).1 : Int)) ≠ [] := by
    have := g.l2
    intro z
    rw [List.map_eq_nil_iff] at z
    rw [z] at this
    simp at this
  obtain ⟨x, hx, hs⟩ := List.mem_map.mp (topI_mem hne)
  have hi : ∀ {l : List Str}, intsOf (l.map fun x => T.int ((f x).1 : Nat)) = some (l.map fun x => ((f x).1 : Int)) := by
    intro l
    induction l with
    | nil => rfl
    | cons e D ih => simp only [List.map_cons, intsOf]; rw [ih]; rfl
  have c2 := prim1 (g := gMax1) (s := (.int ((f x).1 : Nat), false)) c1 (by
    simp only [gMax1]
    rw [hi]
    simp only
    rw [if_pos hne, ← hs])
  obtain ⟨_, h2, h3⟩ := hf x hx
  refine ⟨(f x).1, x, (f x).2, ?_, hx, h2, h3⟩
  have h4 : g_span_by [wV P E] = some (.int ((f x).1 : Nat), false) := by
    refine fnG_of rfl ?_
    unfold m_span_by
    exact go_ret (go_of c2 rfl)
  refine fnG_of rfl ?_
  unfold m_span
  refine go_seq ⟨(.nx, [some (wV P E, .fr)]), by simp [rget, check_eq], ?_⟩
  exact go_ret (go_of (st1 (ρ1 := [some (wV P E, .fr)]) (vm_fr rfl) h4) rfl)
end Rv
end

section
set_option Elab.async false
set_option autoImplicit false
set_option linter.all false
set_option maxRecDepth 100000
set_option maxHeartbeats 400000
namespace Rv
open PySem PySem.Spec L2 LamX NdefX
open PyProof.Rows hiding St
/-! ### the fewest and the first, both ways -/
theorem fewest_first {P : List Str} {E : List (Str × Str)} (g : Good P E) : ∃ (k : Nat) (p : List Nat), g_fewest_paint [wV P E] = some (.int (k : Nat), false) ∧ g_first_paint [wV P E] = some (ptT p, false) ∧ 1 ≤ k ∧ k ≤ P.length ∧
    (∀ j, 1 ≤ j → j < k → (pc j P.length).filter (fun x => decide (x.2 = j) && brtP P E x.1) = []) ∧ ∃ u t, (pc k P.length).filter (fun x => decide (x.2 = k) && brtP P E x.1) = (p, u) :: t := by
  obtain ⟨rows, er, hro, hr1, hr2⟩ := inner_lists_eq g.inP g.l6 g.en g.as g.e9 g.all
  have hP1 : 1 ≤ P.length := by have := g.l2; omega
  obtain ⟨k, p, h1, hk1, hk2, hlt, u, t, hsel⟩ := first_by_eq g.inP g.l6 hP1 er hro hr1 hr2
  have hs : ∀ j, sel rows P.length j = (pc j P.length).filter fun x => decide (x.2 = j) && brtP P E x.1 := fun j => by
    unfold sel
    exact List.filter_congr fun x _ => by rw [brt_iff g.so hro]
  have e0 := ix_at (k := false) (l := [T.int (k : Nat), ptT p]) (i := 0) (t := T.int (k : Nat)) rfl
  have e0' : gIx [.tup false [.int (k : Nat), ptT p], .int 0] = some (.int (k : Nat), false) := e0
  have e1 := ix_at (k := false) (l := [T.int (k : Nat), ptT p]) (i := 1) (t := ptT p) rfl
  have e1' : gIx [.tup false [.int (k : Nat), ptT p], .int 1] = some (ptT p, false) := e1
  refine ⟨k, p, fnG_of rfl ?_, fnG_of rfl ?_, hk1, hk2, fun j a b => by rw [← hs]; exact hlt j a b, u, t, by rw [← hs]; exact hsel⟩
  · unfold m_fewest_paint
    refine go_seq ⟨(.nx, [some (wV P E, .fr)]), by simp [rget, check_eq], ?_⟩
    simp [rget, h1, e0', outR]
  · unfold m_first_paint
    refine go_seq ⟨(.nx, [some (wV P E, .fr)]), by simp [rget, check_eq], ?_⟩
    simp [rget, h1, e1', outR]
theorem range_bright {P : List Str} {E : List (Str × Str)} (g : Good P E) : brtP P E (List.range P.length) = true := by
  obtain ⟨rows, er, hro, _⟩ := inner_lists_eq g.inP g.l6 g.en g.as g.e9 g.all
  rw [← brt_iff g.so hro]
  exact rows_bright hro g.inP
theorem same_int {i : Int} (d : Nat) : g__law_same (d + 1) [.int i, .int i] = some (.bl true, false) := by
  refine fnG_of rfl ?_
  unfold m__law_same
  refine go_seq ⟨(.nx, [some (.int i, .fr), some (.int i, .fr), none]), by simp [ifM, rget, gIsi, isiT, tyN, tys], ?_⟩
  refine go_seq ⟨(.nx, [some (.int i, .fr), some (.int i, .fr), none]), by simp [ifM, rget, gIsN, isNon], ?_⟩
  refine go_seq ⟨(.nx, [some (.int i, .fr), some (.int i, .fr), none]), by simp [ifM, rget, gIsi, isiT, tyN, tys], ?_⟩
  refine go_seq ⟨(.rt (.bl true, false), [some (.int i, .fr), some (.int i, .fr), none]), by simp [ifM, rget, gIsi, isiT, tyN, tys, eq_int], ?_⟩
  rfl
theorem same_pt {p : List Nat} (d : Nat) (hl : p.length ≤ 1000) : g__law_same (d + 2) [ptT p, ptT p] = some (.bl true, false) := same_tup (by simpa using hl) fun t ht => by
  obtain ⟨i, _, rfl⟩ := List.mem_map.mp ht
  exact same_int d
/-! ### the span -/
theorem span_few {P : List Str} {E : List (Str × Str)} (g : Good P E) {p : List Nat} {few : Nat} (hb : brtP P E p = true) (hp : p.length = P.length) (hc : ∀ c ∈ p, c < few) {s : Nat} {x y : Str} (hx : x ∈ P) (hy : y ∈ P) (hs : ∀ j, Walk E x j y → s ≤ j) : s ≤ few + 1 := by
  rw [brtP_iff] at hb
  have key : ∀ {a b : Str}, a ∈ P → b ∈ P → sl a b → ∃ w, Path E a w b ∧ w.length ≤ few + 2 := by
    intro a b ha hb' hab
    obtain ⟨w, hw, hu⟩ := hb a ha b hb' hab
    refine ⟨w, hw, ?_⟩
    have hn : ((inner P w).map fun i => p.getD i 0).Nodup := of_decide_eq_true hu
    have := nodup_le hn (m := List.range few) fun c hcm => by
      obtain ⟨i, hi, rfl⟩ := List.mem_map.mp hcm
      have hil := (inner_ok hw g.inP ha).2 i hi
      rw [List.getD_eq_getElem?_getD, List.getElem?_eq_getElem (by omega)]
      exact List.mem_range.mpr (hc _ (List.getElem_mem _))
    rw [List.length_map, List.length_range] at this
    unfold inner at this
    rw [List.length_map, List.length_dropLast, List.length_tail] at this
    omega
  rcases sl_tri x y with h | h | h
  · obtain ⟨w, hw, hl⟩ := key hx hy h
    have := hs _ hw.walk
    omega
  · subst h
    have := hs 0 .zero
    omega
  · obtain ⟨w, hw, hl⟩ := key hy hx h
    have := hs _ hw.walk.symm
    omega
/-! ### one lap -/
def RU (a b c : Int) (s1 s2 s3 s4 s5 : Option (T × Own)) : Rho := [some (bw a b c, .io), s1, s2, s3, s4, s5, none]
abbrev RW (P : List Str) (E : List (Str × Str)) (o : Own) (a b c : Int) (s1 s4 s5 : Option (T × Own)) : Rho := RU a b c s1 (some (wL P E, .fr)) (some (wV P E, o)) s4 s5
@[simp] theorem mkT4 {a b c d : T} : gMkT [a, b, c, d] = some (.tup false [a, b, c, d], false) := if_pos (by show 4 ≤ 16777216; decide)
theorem st4 {f1 f2 f3 f4 : M} {g : List T → Option Res} {ρ ρ1 ρ2 ρ3 ρ4 : Rho} {t1 t2 t3 t4 : T} {o1 o2 o3 o4 : Bool} {s : Res} (h1 : f1 ρ = some ((t1, o1), ρ1)) (h2 : f2 ρ1 = some ((t2, o2), ρ2)) (h3 : f3 ρ2 = some ((t3, o3), ρ3)) (h4 : f4 ρ3 = some ((t4, o4), ρ4)) (h : g [t1, t2, t3, t4] = some s) : storeM [.val f1, .val f2, .val f3, .val f4] g ρ = some (s, ρ4) := by
  simp only [storeM, opsM, h1, h2, h3, h4, vals, h]
theorem asgT2 {f : M} {ρ ρ1 : Rho} {k : Bool} {t1 t2 : T} {i j : Nat} {s s' : Option (T × Own)} (h : f ρ = some ((.tup k [t1, t2], false), ρ1)) (hi : rget ρ1 i = s) (ni : Nio s) (li : i < ρ1.length) (hj : rget (ρ1.set i (some (t1, .fr))) j = s') (nj : Nio s') (lj : j < ρ1.length) : asgTM [i, j] f ρ = some (.nx, (ρ1.set i (some (t1, .fr))).set j (some (t2, .fr))) := by
  unfold asgTM
  rw [h]
  simp only [setAll]
  rw [setM_nio hi ni li]
  simp only [Bool.false_eq_true, if_false]
  rw [setM_nio hj nj (by rw [List.length_set]; exact lj)]
  simp
/-- what is due is what the program tells -/
theorem due_eq {P : List Str} {E : List (Str × Str)} (g : Good P E) : ∃ (k : Nat) (p : List Nat), g_fewest_paint [wV P E] = some (.int (k : Nat), false) ∧ g_first_paint [wV P E] = some (ptT p, false) ∧ g__law_first [rwT ((pc 9 P.length).filter fun x => brtP P E x.1)] = some (.tup false [.int (k : Nat), ptT p], false) ∧ (p, k) ∈ pc 9 P.length ∧ brtP P E p = true := by
  have h2 := g.l2
  have h6 := g.l6
  obtain ⟨k, p, e1, e2, hk1, hk2, hlt, u, t, hsel⟩ := fewest_first g
  have hm : (List.range P.length, P.length) ∈ (pc 9 P.length).filter fun x => brtP P E x.1 := List.mem_filter.mpr ⟨pc_range (by omega), range_bright g⟩
  have hne : ∀ x ∈ (pc 9 P.length).filter (fun x => brtP P E x.1), x.1 ≠ [] ∧ topI (x.1.map fun i : Nat => (i : Int)) + 1 = (x.2 : Int) := fun x hx => by
    have h1 := (List.mem_filter.mp hx).1
    have h3 : x.1 ≠ [] := fun z => by
      have := (pc_mem h1).1
      rw [z] at this
      simp at this
      omega
    exact ⟨h3, pc_top h1 h3⟩
  have hlen : ((pc 9 P.length).filter fun x => brtP P E x.1).length ≤ 1000000 := by
    refine Nat.le_trans (List.length_filter_le _ _) (Nat.le_trans pc_len ?_)
    exact Nat.le_trans (Nat.pow_le_pow_right (by decide) h6) (by decide)
  obtain ⟨few, p', u', t', e3, hmin, hf⟩ := law_first_eq (List.ne_nil_of_mem hm) hlen hne
  have hmem : (p', u') ∈ ((pc 9 P.length).filter fun x => brtP P E x.1).filter fun x => decide (x.2 = few) := by rw [hf]; exact List.mem_cons_self
  obtain ⟨hm1, hm2⟩ := List.mem_filter.mp hmem
  have hu : u' = few := by simpa using hm2
  obtain ⟨hm3, hm4⟩ := List.mem_filter.mp hm1
  have hfew9 : few ≤ 9 := by
    have := (pc_mem hm3).2.2
    simp only at this
    omega
  have hfew1 : 1 ≤ few := by
    have := (hne _ hm1).2
    obtain ⟨c, l, hc⟩ := List.exists_cons_of_ne_nil (hne _ hm1).1
    have := (pc_cols hm3 c).mp (by rw [hc]; exact List.mem_cons_self)
    simp only at this
    omega
  have same : ∀ j, j ≤ 9 → ((pc 9 P.length).filter fun x => brtP P E x.1).filter (fun x => decide (x.2 = j)) = (pc j P.length).filter fun x => decide (x.2 = j) && brtP P E x.1 := fun j hj => pc_same hj
  have hkf : k = few := by
    rcases Nat.lt_trichotomy few k with q | q | q
    · have := hlt few hfew1 q
      rw [← same few hfew9, hf] at this
      cases this
    · exact q.symm
    · have h9 : k ≤ 9 := by omega
      have : (p, u) ∈ ((pc 9 P.length).filter fun x => brtP P E x.1).filter fun x => decide (x.2 = k) := by rw [same k h9, hsel]; exact List.mem_cons_self
      obtain ⟨m1, m2⟩ := List.mem_filter.mp this
      have := hmin _ m1
      simp only [decide_eq_true_eq] at m2
      simp only at this
      omega
  subst hkf
  have : (p', u') :: t' = (p, u) :: t := by rw [← hf, ← hsel]; exact same k hfew9
  injection this with q1 q2
  injection q1 with q3 q4
  subst q3
  refine ⟨k, p', e1, e2, e3, ?_, hm4⟩
  rw [← hu]
  exact hm3
theorem lap_last {P : List Str} {E : List (Str × Str)} (g : Good P E) {a b c : Int} {s1 : Option (T × Own)} {k : Nat} {p : List Nat} (e1 : g_fewest_paint [wV P E] = some (.int (k : Nat), false)) (e2 : g_first_paint [wV P E] = some (ptT p, false)) (hm : (p, k) ∈ pc 9 P.length) (hb : brtP P E p = true) :
    notM (storeM [.val (storeM [.val (storeM [.val (varM 3)] g_fewest_paint), .val (storeM [.val (varM 3)] (gPerm [0] 1 g_fewest_paint)), .val (storeM [.val (varM 3)] g_first_paint), .val (storeM [.val (varM 3)] (gPerm [0] 1 g_first_paint))] gMkT), .val (storeM [.val (varM 4), .val (varM 4), .val (varM 5), .val (varM 5)] gMkT)] (g__law_same 4)) (RW P E .ow a b c s1 (some (.int (k : Nat), .fr)) (some (ptT p, .fr))) = some ((.bl false, false), RW P E .fr a b c s1 (some (.int (k : Nat), .fr)) (some (ptT p, .fr)))
    ∧ orM (primM [.val (storeM [.val (varM 3), .val (varM 5)] g_is_bright), .val (conM (.bl true))] gIsnB) (orM (primM [.pk 4, .val (primM [.val (storeM [.val (varM 3)] g_span), .val (conM (.int 1))] gSub2)] gLt) (primM [.val (primM [.pk 5] gLenSetT), .pk 4] gNe)) (RW P E .fr a b c s1 (some (.int (k : Nat), .fr)) (some (ptT p, .fr))) = some ((.bl false, false), RW P E .fr a b c s1 (some (.int (k : Nat), .fr)) (some (ptT p, .fr))) := by
  have h6 := g.l6
  have hp := (pc_mem hm).1
  have hkn := (pc_mem hm).2.2
  simp only at hp hkn
  have hcol : ∀ d ∈ p, d < k := fun d hd => (pc_cols hm d).mp hd
  constructor
  · have v3 : varM 3 (RW P E .ow a b c s1 (some (.int (k : Nat), .fr)) (some (ptT p, .fr))) = some ((wV P E, false), RW P E .fr a b c s1 (some (.int (k : Nat), .fr)) (some (ptT p, .fr))) := rfl
    have v3' : varM 3 (RW P E .fr a b c s1 (some (.int (k : Nat), .fr)) (some (ptT p, .fr))) = some ((wV P E, false), RW P E .fr a b c s1 (some (.int (k : Nat), .fr)) (some (ptT p, .fr))) := rfl
    have v4 : varM 4 (RW P E .fr a b c s1 (some (.int (k : Nat), .fr)) (some (ptT p, .fr))) = some ((.int (k : Nat), false), RW P E .fr a b c s1 (some (.int (k : Nat), .fr)) (some (ptT p, .fr))) := rfl
    have v5 : varM 5 (RW P E .fr a b c s1 (some (.int (k : Nat), .fr)) (some (ptT p, .fr))) = some ((ptT p, false), RW P E .fr a b c s1 (some (.int (k : Nat), .fr)) (some (ptT p, .fr))) := rfl
    have e1' : gPerm [0] 1 g_fewest_paint [wV P E] = some (.int (k : Nat), false) := e1
    have e2' : gPerm [0] 1 g_first_paint [wV P E] = some (ptT p, false) := e2
    have a1 := st4 (st1 v3 e1) (st1 v3' e1') (st1 v3' e2) (st1 v3' e2') (mkT4 (a := .int (k : Nat)) (b := .int (k : Nat)) (c := ptT p) (d := ptT p))
    have a2 := st4 v4 v4 v5 v5 (mkT4 (a := .int (k : Nat)) (b := .int (k : Nat)) (c := ptT p) (d := ptT p))
    have a3 : g__law_same 4 [.tup false [.int (k : Nat), .int (k : Nat), ptT p, ptT p], .tup false [.int (k : Nat), .int (k : Nat), ptT p, ptT p]] = some (.bl true, false) := same_tup (by simp) fun t ht => by
      simp only [List.mem_cons, List.not_mem_nil, or_false] at ht
      rcases ht with rfl | rfl | rfl | rfl
      · exact same_int 2
      · exact same_int 2
      · exact same_pt 1 (by omega)
      · exact same_pt 1 (by omega)
    exact not_b (st2 a1 a2 a3)
  · have v3 : varM 3 (RW P E .fr a b c s1 (some (.int (k : Nat), .fr)) (some (ptT p, .fr))) = some ((wV P E, false), RW P E .fr a b c s1 (some (.int (k : Nat), .fr)) (some (ptT p, .fr))) := rfl
    have v5 : varM 5 (RW P E .fr a b c s1 (some (.int (k : Nat), .fr)) (some (ptT p, .fr))) = some ((ptT p, false), RW P E .fr a b c s1 (some (.int (k : Nat), .fr)) (some (ptT p, .fr))) := rfl
    have b1 := bright_at (k := false) g (p := p) (fun d hd => by have := hcol d hd; omega) hp
    rw [hb] at b1
    have c1 := prim_c (c := .bl true) (st2 v3 v5 b1) (show gIsnB [.bl true, .bl true] = some (.bl false, false) from rfl)
    obtain ⟨s, x, y, es, hx, hy, hw⟩ := span_eq g
    have hs := span_few g hb hp hcol hx hy hw
    have c2 := prim_c (c := .int 1) (st1 v3 es) (show gSub2 [.int (s : Nat), .int 1] = some (.int ((s : Int) - 1), false) from rfl)
    have l2 := gLtI (i := (k : Nat)) (j := (s : Int) - 1)
    have hz : decide (((k : Nat) : Int) < (s : Int) - 1) = false := decide_eq_false (by omega)
    rw [hz] at l2
    have c3 := pkv (i := 4) (o1' := .fr) (w := .fr) (t := .int (k : Nat)) (t1 := .int (k : Nat)) c2 rfl rfl l2
    have n1 : gLenSetT [ptT p] = some (.int (k : Nat), false) := by
      simp only [gLenSetT]
      rw [show nT p = (p.map fun i : Nat => T.int (i : Nat)) from rfl, intsOf_nat]
      simp only
      rw [if_pos (by rw [List.length_map]; omega), pc_nset hm]
    have n2 := ne_int (i := (k : Nat)) (j := (k : Nat))
    rw [decide_eq_true rfl] at n2
    have c4 := vpk (i := 4) (pk1 (i := 5) (ρ := RW P E .fr a b c s1 (some (.int (k : Nat), .fr)) (some (ptT p, .fr))) rfl n1) rfl n2
    exact or_ff c1 (or_ff c3 c4)
theorem law_right_eq (a b c : Int) : ∃ a' b' c' : Int, g__law_right (bw a b c) [] = some ((.bl true, false), bw a' b' c') := by
  suffices h : Go (m__law_right (startI 7 (bw a b c) [])) fun x => ∃ a' b' c' : Int, outI (some x) = some ((.bl true, false), bw a' b' c') by
    obtain ⟨x, e, a', b', c', q⟩ := h
    exact ⟨a', b', c', fnI_of rfl ⟨x, e, q⟩⟩
  unfold m__law_right
  refine go_seq (go_for (ts := (List.range 3).map fun i : Nat => T.int (0 + (i : Nat))) (ρ1 := RU a b c none none none none none) (by rfl) ?_)
  refine go_loop (I := fun _ ρ => ∃ a b c s1 s2 s3 s4 s5, ρ = RU a b c s1 s2 s3 s4 s5 ∧ Nio s1 ∧ Nio s2 ∧ Nio s3 ∧ Nio s4 ∧ Nio s5) ?_ ?_ _ _ ⟨a, b, c, none, none, none, none, none, rfl, nio_none, nio_none, nio_none, nio_none, nio_none⟩
  · rintro ρ ⟨a, b, c, s1, s2, s3, s4, s5, rfl, _⟩
    exact go_ret ⟨_, rfl, a, b, c, rfl⟩
  · rintro t rest ρ ⟨a0, b0, c0, s1, s2, s3, s4, s5, rfl, n1, n2, n3, n4, n5⟩
    refine ⟨RU a0 b0 c0 (some (t, .fr)) s2 s3 s4 s5, by simp only [tgM]; rw [setM_nio (s := s1) rfl n1 (by simp [RU])]; rfl, ?_⟩
    obtain ⟨P, E, a, b, c, hw, g, hP5, _⟩ := law_web_gen (n := 5) (most := 8) (by omega) (by omega) (by omega) a0 b0 c0
    have hw' : g__law_web (bw a0 b0 c0) [.int 5, .int 8] = some ((wL P E, false), bw a b c) := hw
    have hcall : callIM 0 [.val (conM (.int 5)), .val (conM (.int 8))] g__law_web (RU a0 b0 c0 (some (t, .fr)) s2 s3 s4 s5) = some ((wL P E, false), RU a b c (some (t, .fr)) s2 s3 s4 s5) := by
      simp only [callIM, opsM, RU, rget, List.getD_cons_zero, conM, vals, ownM, hw']
      rfl
    refine go_seq (go_of (asg_nio (s := s2) hcall rfl n2 (by simp [RU])) ?_)
    have v2 : varM 2 (RU a b c (some (t, .fr)) (some (wL P E, .fr)) s3 s4 s5) = some ((wL P E, false), RU a b c (some (t, .fr)) (some (wL P E, .fr)) s3 s4 s5) := rfl
    refine go_seq (go_of (x := (.nx, RW P E .ow a b c (some (t, .fr)) s4 s5)) (asg_nio (s := s3) (st1 v2 (made_eq g)) rfl n3 (by simp [RU])) ?_)
    obtain ⟨k, p, e1, e2, e3, hm, hb⟩ := due_eq g
    obtain ⟨fl, eg⟩ := law_grown_eq (n := P.length) (m := 9) g.l6 (by omega)
    have hl0 : primM [.val (primM [.pk 2, .val (conM (.int 0))] gIx)] gLen (RW P E .ow a b c (some (t, .fr)) s4 s5) = some ((.int (P.length : Nat), false), RW P E .ow a b c (some (t, .fr)) s4 s5) := prim1 (pkc rfl wL0) len_P
    have hsrc : srcM (storeM [.val (primM [.val (primM [.pk 2, .val (conM (.int 0))] gIx)] gLen), .val (conM (.int 9))] g__law_grown) (RW P E .ow a b c (some (t, .fr)) s4 s5) = some ((pc 9 P.length).map fun x => ptT x.1, RW P E .ow a b c (some (t, .fr)) s4 s5) := src_ll (b := fl) (st2 (f2 := conM (.int 9)) hl0 rfl eg)
    have c1 := comp_map (ρ := RW P E .ow a b c (some (t, .fr)) s4 s5) (ρ1 := RW P E .ow a b c (some (t, .fr)) s4 s5) (ρw := RW P E .ow a b c (some (t, .fr)) s4 s5)
      (tg := .nm 6) (cnd := storeM [.val (varM 2), .val (varM 6)] g__law_bright) (elt := varM 6) (vs := [6]) (F := fun x : List Nat × Nat => ptT x.1) (G := fun x => ptT x.1) (l := pc 9 P.length) (p := fun x => brtP P E x.1)
      hsrc rfl (lim_ge (Nat.le_trans pc_len (Nat.le_trans (Nat.pow_le_pow_right (by decide) g.l6) (by decide))))
      (fun x hx => ⟨[some (bw a b c, .io), some (t, .fr), some (wL P E, .fr), some (wV P E, .ow), s4, s5, some (ptT x.1, .fr)], rfl, turn_if (st2 (vm_fr (i := 2) rfl) (vm_fr (i := 6) rfl) (law_bright_eq (k := false) g.l6 g.inP (pc_mem hx).1)) (vm_fr rfl) rfl⟩)
    have c2 := st1 c1 e3
    refine go_seq (go_of (x := (.nx, RW P E .ow a b c (some (t, .fr)) (some (.int (k : Nat), .fr)) (some (ptT p, .fr)))) (asgT2 (s := s4) (s' := s5) c2 rfl n4 (by simp [RU]) rfl n5 (by simp [RU])) ?_)
    have hl := lap_last g (a := a) (b := b) (c := c) (s1 := some (t, .fr)) e1 e2 hm hb
    refine go_seq (go_of (if_nop hl.1) ?_)
    exact go_of (if_nop hl.2) ⟨a, b, c, _, _, _, _, _, rfl, nio_fr, nio_fr, nio_fr, nio_fr, nio_fr⟩
end Rv
end

section
set_option Elab.async false
set_option autoImplicit false
set_option linter.all false
set_option maxRecDepth 100000
set_option maxHeartbeats 400000
namespace Rv
open PySem PySem.Spec L2 LamX NdefX
open PyProof.Rows hiding St
/-! ### the law -/
theorem bl_all {n : Nat} : gAll [.lst ((List.range n).map fun _ => T.bl true)] = some (.bl true, false) := all_true
theorem law_true (ns : List Int) (hl : ns.length ≤ 63) : g_law [.frl (ns.map T.int)] = some (.bl true, false) := by
  obtain ⟨n, hn⟩ : ∃ n : Nat, n = (if (((if ((3 : Int) < (ns.length : Nat)) then 3 else (ns.length : Nat)) : Int) > 1) then ((if ((3 : Int) < (ns.length : Nat)) then 3 else (ns.length : Nat)) : Int) else 1).toNat := ⟨_, rfl⟩
  have hn3 : n ≤ 3 ∧ ((n : Nat) : Int) = (if (((if ((3 : Int) < (ns.length : Nat)) then 3 else (ns.length : Nat)) : Int) > 1) then ((if ((3 : Int) < (ns.length : Nat)) then 3 else (ns.length : Nat)) : Int) else 1) := by
    rw [hn]
    split <;> split <;> omega
  have h1 : gLen [.frl (ns.map T.int)] = some (.int (ns.length : Nat), false) := by simp [gLen]
  have e1 : primM [.val (conM (.int 1)), .val (primM [.val (primM [.pk 0] gLen), .val (conM (.int 3))] gMin2)] gMax2 [some (.frl (ns.map T.int), .fr), none] = some ((.int (n : Nat), false), [some (.frl (ns.map T.int), .fr), none]) := by
    refine pm2 rfl (prim_c (pk1 rfl h1) rfl) ?_
    rw [hn3.2]
    rfl
  have hr := rng_r62 (n := n) (by omega)
  have hs : rng1M (.val (primM [.val (conM (.int 1)), .val (primM [.val (primM [.pk 0] gLen), .val (conM (.int 3))] gMin2)] gMax2)) [some (.frl (ns.map T.int), .fr), none] = some ((List.range n).map (fun i : Nat => T.int (0 + (i : Nat))), [some (.frl (ns.map T.int), .fr), none]) := by
    unfold rng1M
    simp only [opsM, e1, resolves, resolve, hr, if_true, Int.toNat_natCast, intsT]
  have c1 := comp_all (ρ := [some (.frl (ns.map T.int), .fr), none]) (ρ1 := [some (.frl (ns.map T.int), .fr), none]) (ρw := [some (.frl (ns.map T.int), .fr), none])
    (tg := .nm 1) (cnd := yesM) (elt := callTM [.val (storeM [.val (varM 0), .val (varM 1)] g__law_bowl)] g__law_right) (vs := [1]) (F := fun i : Nat => T.int (0 + (i : Nat))) (G := fun _ => T.bl true) (l := List.range n)
    hs rfl (lim_ge (by rw [List.length_range]; omega))
    (fun i _ => ⟨[some (.frl (ns.map T.int), .fr), some (.int (0 + (i : Nat)), .fr)], rfl, by
      obtain ⟨a, b, c, hb⟩ := bowl_eq ns i
      obtain ⟨a', b', c', hq⟩ := law_right_eq a b c
      have e0 : ((0 : Int) + (i : Int)) = (i : Int) := Int.zero_add _
      rw [e0]
      have a1 : storeM [.val (varM 0), .val (varM 1)] g__law_bowl [some (.frl (ns.map T.int), .fr), some (.int (i : Nat), .fr)] = some ((bw a b c, true), [some (.frl (ns.map T.int), .fr), some (.int (i : Nat), .fr)]) := st2 (vm_fr rfl) (vm_fr rfl) hb
      have a2 : callTM [.val (storeM [.val (varM 0), .val (varM 1)] g__law_bowl)] g__law_right [some (.frl (ns.map T.int), .fr), some (.int (i : Nat), .fr)] = some ((.bl true, false), [some (.frl (ns.map T.int), .fr), some (.int (i : Nat), .fr)]) := by
        simp only [callTM, opsM, a1, valsF, hq]
      have := turn_if (cond := yesM) (vs := [1]) (b := true) (ρw := [some (.frl (ns.map T.int), .fr), none]) rfl a2 rfl
      simpa using this⟩)
  have c2 := prim1 c1 all_true
  refine fnG_of rfl ?_
  unfold m_law
  exact go_ret (go_of c2 rfl)
end Rv
end

section
set_option Elab.async false
set_option autoImplicit false
set_option linter.all false
set_option maxRecDepth 100000
set_option maxHeartbeats 0
namespace Rv
open PySem PySem.Spec L2 LamX NdefX
open PyProof.Rows hiding St
/-! ### the head: facts by names, the run -/
def fa0_0 : List He.Fa := [.free "abs", .free "all", .free "any", .free "bool", .free "divmod", .free "enumerate", .free "int", .free "isinstance", .free "len", .free "max", .free "min", .free "range", .free "set", .free "sorted", .free "str", .free "tuple", .int "MOST_LETTERS" 8, .int "LEAST_PLACES" 2, .int "MOST_PLACES" 6, .int "MOST_TIES" 9, .str "LETTERS" "abcdefghijklmnopqrstuvwxyz", .glo "WORDS", .int "MOST_COLOUR" 8, .glo "is_whole", .glo "is_between", .glo "is_one_of", .glo "is_word", .glo "is_name", .glo "is_tuple_of", .glo "is_pair"]
def fa0_1 : List He.Fa := [.glo "wrong_in", .glo "is_colour", .glo "wrong_in_all", .glo "are_below", .glo "wrong_in_places", .glo "is_tie_of", .glo "wrong_in_ties", .glo "beside", .glo "do_hang", .glo "pairs_of", .glo "wrong_in_colours", .glo "ways_between", .glo "far_from", .glo "span_by", .glo "plain_colourings", .glo "wrong_in_paint", .glo "inner_lists", .glo "are_unlike_at", .glo "is_bright_on", .glo "is_bright_by", .glo "first_paint_by", .glo "check_web", .glo "span", .glo "check_paint", .glo "is_bright", .glo "fewest_paint", .glo "first_paint", .glo "_law_bowl", .glo "_law_draw", .glo "_law_of"]
def fa0_2 : List He.Fa := [.glo "_law_same", .glo "_law_names", .glo "_law_web", .glo "_law_beside", .glo "_law_ways", .glo "_law_pairs", .glo "_law_grown", .glo "_law_first", .glo "_law_made", .glo "_law_bright", .glo "_law_right", .glo "law", .glo "Web", .cls "Web", .mkr "Web", .noat "Web" "all_told"]
def fa0 : List He.Fa := fa0_0 ++ fa0_1 ++ fa0_2
def df_is_whole : He.DefD := ⟨("is_whole", none), "is_whole", "is_whole", L2.defArgs st_is_whole, L2.defBody st_is_whole, L2.defScope st_is_whole, [], []⟩
def df_is_between : He.DefD := ⟨("is_between", none), "is_between", "is_between", L2.defArgs st_is_between, L2.defBody st_is_between, L2.defScope st_is_between, [], []⟩
def df_is_one_of : He.DefD := ⟨("is_one_of", none), "is_one_of", "is_one_of", L2.defArgs st_is_one_of, L2.defBody st_is_one_of, L2.defScope st_is_one_of, [], []⟩
def df_is_word : He.DefD := ⟨("is_word", none), "is_word", "is_word", L2.defArgs st_is_word, L2.defBody st_is_word, L2.defScope st_is_word, [], []⟩
def df_is_name : He.DefD := ⟨("is_name", none), "is_name", "is_name", L2.defArgs st_is_name, L2.defBody st_is_name, L2.defScope st_is_name, [], []⟩
def df_is_tuple_of : He.DefD := ⟨("is_tuple_of", none), "is_tuple_of", "is_tuple_of", L2.defArgs st_is_tuple_of, L2.defBody st_is_tuple_of, L2.defScope st_is_tuple_of, [], []⟩
def df_is_pair : He.DefD := ⟨("is_pair", none), "is_pair", "is_pair", L2.defArgs st_is_pair, L2.defBody st_is_pair, L2.defScope st_is_pair, [], []⟩
def df_wrong_in : He.DefD := ⟨("wrong_in", none), "wrong_in", "wrong_in", L2.defArgs st_wrong_in, L2.defBody st_wrong_in, L2.defScope st_wrong_in, [], []⟩
def df_is_colour : He.DefD := ⟨("is_colour", none), "is_colour", "is_colour", L2.defArgs st_is_colour, L2.defBody st_is_colour, L2.defScope st_is_colour, [], []⟩
def df_wrong_in_all : He.DefD := ⟨("wrong_in_all", none), "wrong_in_all", "wrong_in_all", L2.defArgs st_wrong_in_all, L2.defBody st_wrong_in_all, L2.defScope st_wrong_in_all, [], []⟩
def df_are_below : He.DefD := ⟨("are_below", none), "are_below", "are_below", L2.defArgs st_are_below, L2.defBody st_are_below, L2.defScope st_are_below, [], []⟩
def df_wrong_in_places : He.DefD := ⟨("wrong_in_places", none), "wrong_in_places", "wrong_in_places", L2.defArgs st_wrong_in_places, L2.defBody st_wrong_in_places, L2.defScope st_wrong_in_places, [], []⟩
def df_is_tie_of : He.DefD := ⟨("is_tie_of", none), "is_tie_of", "is_tie_of", L2.defArgs st_is_tie_of, L2.defBody st_is_tie_of, L2.defScope st_is_tie_of, [], []⟩
def df_wrong_in_ties : He.DefD := ⟨("wrong_in_ties", none), "wrong_in_ties", "wrong_in_ties", L2.defArgs st_wrong_in_ties, L2.defBody st_wrong_in_ties, L2.defScope st_wrong_in_ties, [], []⟩
def df_beside : He.DefD := ⟨("beside", none), "beside", "beside", L2.defArgs st_beside, L2.defBody st_beside, L2.defScope st_beside, [], []⟩
def df_do_hang : He.DefD := ⟨("do_hang", none), "do_hang", "do_hang", L2.defArgs st_do_hang, L2.defBody st_do_hang, L2.defScope st_do_hang, [], []⟩
def dp_Web_places : He5.DefA := ⟨getA "Web" "places", "places", "Web.places", L2.defArgs st_Web_places, L2.defBody st_Web_places, L2.defScope st_Web_places, [], []⟩
def df_pairs_of : He.DefD := ⟨("pairs_of", none), "pairs_of", "pairs_of", L2.defArgs st_pairs_of, L2.defBody st_pairs_of, L2.defScope st_pairs_of, [], []⟩
def df_wrong_in_colours : He.DefD := ⟨("wrong_in_colours", none), "wrong_in_colours", "wrong_in_colours", L2.defArgs st_wrong_in_colours, L2.defBody st_wrong_in_colours, L2.defScope st_wrong_in_colours, [], []⟩
def dp_Web_ties : He5.DefA := ⟨getA "Web" "ties", "ties", "Web.ties", L2.defArgs st_Web_ties, L2.defBody st_Web_ties, L2.defScope st_Web_ties, [], []⟩
def df_ways_between : He.DefD := ⟨("ways_between", none), "ways_between", "ways_between", L2.defArgs st_ways_between, L2.defBody st_ways_between, L2.defScope st_ways_between, [], []⟩
def df_far_from : He.DefD := ⟨("far_from", none), "far_from", "far_from", L2.defArgs st_far_from, L2.defBody st_far_from, L2.defScope st_far_from, [], []⟩
def df_span_by : He.DefD := ⟨("span_by", none), "span_by", "span_by", L2.defArgs st_span_by, L2.defBody st_span_by, L2.defScope st_span_by, [], []⟩
def df_plain_colourings : He.DefD := ⟨("plain_colourings", none), "plain_colourings", "plain_colourings", L2.defArgs st_plain_colourings, L2.defBody st_plain_colourings, L2.defScope st_plain_colourings, [], []⟩
def df_wrong_in_paint : He.DefD := ⟨("wrong_in_paint", none), "wrong_in_paint", "wrong_in_paint", L2.defArgs st_wrong_in_paint, L2.defBody st_wrong_in_paint, L2.defScope st_wrong_in_paint, [], []⟩
def df_inner_lists : He.DefD := ⟨("inner_lists", none), "inner_lists", "inner_lists", L2.defArgs st_inner_lists, L2.defBody st_inner_lists, L2.defScope st_inner_lists, [], []⟩
def df_are_unlike_at : He.DefD := ⟨("are_unlike_at", none), "are_unlike_at", "are_unlike_at", L2.defArgs st_are_unlike_at, L2.defBody st_are_unlike_at, L2.defScope st_are_unlike_at, [], []⟩
def df_is_bright_on : He.DefD := ⟨("is_bright_on", none), "is_bright_on", "is_bright_on", L2.defArgs st_is_bright_on, L2.defBody st_is_bright_on, L2.defScope st_is_bright_on, [], []⟩
def df_is_bright_by : He.DefD := ⟨("is_bright_by", none), "is_bright_by", "is_bright_by", L2.defArgs st_is_bright_by, L2.defBody st_is_bright_by, L2.defScope st_is_bright_by, [], []⟩
def df_first_paint_by : He.DefD := ⟨("first_paint_by", none), "first_paint_by", "first_paint_by", L2.defArgs st_first_paint_by, L2.defBody st_first_paint_by, L2.defScope st_first_paint_by, [], []⟩
def df_Web_init : He.DefD := ⟨("Web", some "__init__"), "__init__", "Web.__init__", L2.defArgs st_Web_init, L2.defBody st_Web_init, L2.defScope st_Web_init, [], []⟩
def df_check_web : He.DefD := ⟨("check_web", none), "check_web", "check_web", L2.defArgs st_check_web, L2.defBody st_check_web, L2.defScope st_check_web, [], []⟩
def df_span : He.DefD := ⟨("span", none), "span", "span", L2.defArgs st_span, L2.defBody st_span, L2.defScope st_span, [], []⟩
def df_check_paint : He.DefD := ⟨("check_paint", none), "check_paint", "check_paint", L2.defArgs st_check_paint, L2.defBody st_check_paint, L2.defScope st_check_paint, [], []⟩
def df_is_bright : He.DefD := ⟨("is_bright", none), "is_bright", "is_bright", L2.defArgs st_is_bright, L2.defBody st_is_bright, L2.defScope st_is_bright, [], []⟩
def df_fewest_paint : He.DefD := ⟨("fewest_paint", none), "fewest_paint", "fewest_paint", L2.defArgs st_fewest_paint, L2.defBody st_fewest_paint, L2.defScope st_fewest_paint, [], []⟩
def df_first_paint : He.DefD := ⟨("first_paint", none), "first_paint", "first_paint", L2.defArgs st_first_paint, L2.defBody st_first_paint, L2.defScope st_first_paint, [], []⟩
def df__law_bowl : He.DefD := ⟨("_law_bowl", none), "_law_bowl", "_law_bowl", L2.defArgs st__law_bowl, L2.defBody st__law_bowl, L2.defScope st__law_bowl, [], []⟩
def df__law_draw : He.DefD := ⟨("_law_draw", none), "_law_draw", "_law_draw", L2.defArgs st__law_draw, L2.defBody st__law_draw, L2.defScope st__law_draw, [], []⟩
def df__law_of : He.DefD := ⟨("_law_of", none), "_law_of", "_law_of", L2.defArgs st__law_of, L2.defBody st__law_of, L2.defScope st__law_of, [], []⟩
def df__law_same : He.DefD := ⟨("_law_same", none), "_law_same", "_law_same", L2.defArgs st__law_same, L2.defBody st__law_same, L2.defScope st__law_same, [], []⟩
def df__law_names : He.DefD := ⟨("_law_names", none), "_law_names", "_law_names", L2.defArgs st__law_names, L2.defBody st__law_names, L2.defScope st__law_names, [], []⟩
def df__law_web : He.DefD := ⟨("_law_web", none), "_law_web", "_law_web", L2.defArgs st__law_web, L2.defBody st__law_web, L2.defScope st__law_web, [], []⟩
def df__law_beside : He.DefD := ⟨("_law_beside", none), "_law_beside", "_law_beside", L2.defArgs st__law_beside, L2.defBody st__law_beside, L2.defScope st__law_beside, [], []⟩
def df__law_ways : He.DefD := ⟨("_law_ways", none), "_law_ways", "_law_ways", L2.defArgs st__law_ways, L2.defBody st__law_ways, L2.defScope st__law_ways, [], []⟩
def df__law_pairs : He.DefD := ⟨("_law_pairs", none), "_law_pairs", "_law_pairs", L2.defArgs st__law_pairs, L2.defBody st__law_pairs, L2.defScope st__law_pairs, [], []⟩
def df__law_grown : He.DefD := ⟨("_law_grown", none), "_law_grown", "_law_grown", L2.defArgs st__law_grown, L2.defBody st__law_grown, L2.defScope st__law_grown, [], []⟩
def df__law_first : He.DefD := ⟨("_law_first", none), "_law_first", "_law_first", L2.defArgs st__law_first, L2.defBody st__law_first, L2.defScope st__law_first, [], []⟩
def df__law_made : He.DefD := ⟨("_law_made", none), "_law_made", "_law_made", L2.defArgs st__law_made, L2.defBody st__law_made, L2.defScope st__law_made, [], []⟩
def df__law_bright : He.DefD := ⟨("_law_bright", none), "_law_bright", "_law_bright", L2.defArgs st__law_bright, L2.defBody st__law_bright, L2.defScope st__law_bright, [], []⟩
def df__law_right : He.DefD := ⟨("_law_right", none), "_law_right", "_law_right", L2.defArgs st__law_right, L2.defBody st__law_right, L2.defScope st__law_right, [], []⟩
def df_law : He.DefD := ⟨("law", none), "law", "law", L2.defArgs st_law, L2.defBody st_law, L2.defScope st_law, [], []⟩
def fn0_0 : List He.DefD := [df_is_whole, df_is_between, df_is_one_of, df_is_word, df_is_name, df_is_tuple_of, df_is_pair, df_wrong_in, df_is_colour, df_wrong_in_all, df_are_below, df_wrong_in_places, df_is_tie_of, df_wrong_in_ties, df_beside, df_do_hang, df_pairs_of, df_wrong_in_colours, df_ways_between, df_far_from, df_span_by, df_plain_colourings, df_wrong_in_paint, df_inner_lists, df_are_unlike_at, df_is_bright_on, df_is_bright_by, df_first_paint_by, df_Web_init, df_check_web]
def fn0_1 : List He.DefD := [df_span, df_check_paint, df_is_bright, df_fewest_paint, df_first_paint, df__law_bowl, df__law_draw, df__law_of, df__law_same, df__law_names, df__law_web, df__law_beside, df__law_ways, df__law_pairs, df__law_grown, df__law_first, df__law_made, df__law_bright, df__law_right, df_law]
def fn0 : List He.DefD := fn0_0 ++ fn0_1
def fp0_0 : List He5.DefA := [dp_Web_places, dp_Web_ties]
def fp0 : List He5.DefA := fp0_0
def tf0 : List He.Defn := [("wrong_in_all", none), ("wrong_in_places", none), ("wrong_in_ties", none), ("ways_between", none)]
def ex0 (K : PySem.W.Frag) : Bool := strsB K "WORDS" words32 && (propB K "Web" "places" && (propB K "Web" "ties" && (insB K "Web" && (nodB K tf0))))
theorem facts0 {P : Program} {w : World} {K : PySem.W.Frag} {h : Heap} {mg : Str → Option Value} (X : K.In h) (G : h.Ns mainGlobals mg) (S : SaysP fa0 fn0 tf0 ex0 fp0 w h K) {base : Heap} (hB : ∀ p ∈ tf0, TabB base mg (He.cT K p).1 (He.cT K p).2) : Facts P w K mg base (caOf (He.ga K "Web") [He.ga K "is_colour"]) (T0of K tf0) := by
  have c := S.x.t.d
  obtain ⟨e0, r0⟩ := He.ba S.x.more
  obtain ⟨e1, r1⟩ := He.ba r0
  obtain ⟨e2, r2⟩ := He.ba r1
  obtain ⟨e3, r3⟩ := He.ba r2
  have e4 := r3
  have hcls := He.cls_ok (c.fact 73 (f := .cls "Web") rfl)
  exact {
    z_abs := He.free_ok X G (c.fact 0 (f := .free "abs") rfl)
    z_all := He.free_ok X G (c.fact 1 (f := .free "all") rfl)
    z_any := He.free_ok X G (c.fact 2 (f := .free "any") rfl)
    z_bool := He.free_ok X G (c.fact 3 (f := .free "bool") rfl)
    z_divmod := He.free_ok X G (c.fact 4 (f := .free "divmod") rfl)
    z_enumerate := He.free_ok X G (c.fact 5 (f := .free "enumerate") rfl)
    z_int := He.free_ok X G (c.fact 6 (f := .free "int") rfl)
    z_isinstance := He.free_ok X G (c.fact 7 (f := .free "isinstance") rfl)
    z_len := He.free_ok X G (c.fact 8 (f := .free "len") rfl)
    z_max := He.free_ok X G (c.fact 9 (f := .free "max") rfl)
    z_min := He.free_ok X G (c.fact 10 (f := .free "min") rfl)
    z_range := He.free_ok X G (c.fact 11 (f := .free "range") rfl)
    z_set := He.free_ok X G (c.fact 12 (f := .free "set") rfl)
    z_sorted := He.free_ok X G (c.fact 13 (f := .free "sorted") rfl)
    z_str := He.free_ok X G (c.fact 14 (f := .free "str") rfl)
    z_tuple := He.free_ok X G (c.fact 15 (f := .free "tuple") rfl)
    c_MOST_LETTERS := He.int_ok X G (c.fact 16 (f := .int "MOST_LETTERS" 8) rfl)
    c_LEAST_PLACES := He.int_ok X G (c.fact 17 (f := .int "LEAST_PLACES" 2) rfl)
    c_MOST_PLACES := He.int_ok X G (c.fact 18 (f := .int "MOST_PLACES" 6) rfl)
    c_MOST_TIES := He.int_ok X G (c.fact 19 (f := .int "MOST_TIES" 9) rfl)
    c_LETTERS := He.str_ok X G (c.fact 20 (f := .str "LETTERS" "abcdefghijklmnopqrstuvwxyz") rfl)
    c_WORDS := ⟨_, He.glo_ok X G (c.fact 21 (f := .glo "WORDS") rfl), strsB_ok e0⟩
    c_MOST_COLOUR := He.int_ok X G (c.fact 22 (f := .int "MOST_COLOUR" 8) rfl)
    F_is_whole := by
      obtain ⟨fd, F⟩ := c.def_ 0 (d := df_is_whole) rfl
      exact ⟨_, fd, He.glo_ok X G (c.fact 23 (f := .glo "is_whole") rfl), He5.fun_of F⟩
    F_is_between := by
      obtain ⟨fd, F⟩ := c.def_ 1 (d := df_is_between) rfl
      exact ⟨_, fd, He.glo_ok X G (c.fact 24 (f := .glo "is_between") rfl), He5.fun_of F⟩
    F_is_one_of := by
      obtain ⟨fd, F⟩ := c.def_ 2 (d := df_is_one_of) rfl
      exact ⟨_, fd, He.glo_ok X G (c.fact 25 (f := .glo "is_one_of") rfl), He5.fun_of F⟩
    F_is_word := by
      obtain ⟨fd, F⟩ := c.def_ 3 (d := df_is_word) rfl
      exact ⟨_, fd, He.glo_ok X G (c.fact 26 (f := .glo "is_word") rfl), He5.fun_of F⟩
    F_is_name := by
      obtain ⟨fd, F⟩ := c.def_ 4 (d := df_is_name) rfl
      exact ⟨_, fd, He.glo_ok X G (c.fact 27 (f := .glo "is_name") rfl), He5.fun_of F⟩
    F_is_tuple_of := by
      obtain ⟨fd, F⟩ := c.def_ 5 (d := df_is_tuple_of) rfl
      exact ⟨_, fd, He.glo_ok X G (c.fact 28 (f := .glo "is_tuple_of") rfl), He5.fun_of F⟩
    F_is_pair := by
      obtain ⟨fd, F⟩ := c.def_ 6 (d := df_is_pair) rfl
      exact ⟨_, fd, He.glo_ok X G (c.fact 29 (f := .glo "is_pair") rfl), He5.fun_of F⟩
    F_wrong_in := by
      obtain ⟨fd, F⟩ := c.def_ 7 (d := df_wrong_in) rfl
      exact ⟨_, fd, He.glo_ok X G (c.fact 30 (f := .glo "wrong_in") rfl), He5.fun_of F⟩
    F_is_colour := by
      obtain ⟨fd, F⟩ := c.def_ 8 (d := df_is_colour) rfl
      exact ⟨_, fd, He.glo_ok X G (c.fact 31 (f := .glo "is_colour") rfl), He5.fun_of F⟩
    F_wrong_in_all := by
      obtain ⟨fd, F⟩ := c.def_ 9 (d := df_wrong_in_all) rfl
      exact ⟨_, fd, _, _, He.glo_ok X G (c.fact 32 (f := .glo "wrong_in_all") rfl), func_of (p := ("wrong_in_all", none)) F, hB ("wrong_in_all", none) (by simp [tf0]), T0_mem (p := ("wrong_in_all", none)) (by simp [tf0]), T0_one (p := ("wrong_in_all", none)) (by simp [tf0]) e4⟩
    F_are_below := by
      obtain ⟨fd, F⟩ := c.def_ 10 (d := df_are_below) rfl
      exact ⟨_, fd, He.glo_ok X G (c.fact 33 (f := .glo "are_below") rfl), He5.fun_of F⟩
    F_wrong_in_places := by
      obtain ⟨fd, F⟩ := c.def_ 11 (d := df_wrong_in_places) rfl
      exact ⟨_, fd, _, _, He.glo_ok X G (c.fact 34 (f := .glo "wrong_in_places") rfl), func_of (p := ("wrong_in_places", none)) F, hB ("wrong_in_places", none) (by simp [tf0]), T0_mem (p := ("wrong_in_places", none)) (by simp [tf0]), T0_one (p := ("wrong_in_places", none)) (by simp [tf0]) e4⟩
    F_is_tie_of := by
      obtain ⟨fd, F⟩ := c.def_ 12 (d := df_is_tie_of) rfl
      exact ⟨_, fd, He.glo_ok X G (c.fact 35 (f := .glo "is_tie_of") rfl), He5.fun_of F⟩
    F_wrong_in_ties := by
      obtain ⟨fd, F⟩ := c.def_ 13 (d := df_wrong_in_ties) rfl
      exact ⟨_, fd, _, _, He.glo_ok X G (c.fact 36 (f := .glo "wrong_in_ties") rfl), func_of (p := ("wrong_in_ties", none)) F, hB ("wrong_in_ties", none) (by simp [tf0]), T0_mem (p := ("wrong_in_ties", none)) (by simp [tf0]), T0_one (p := ("wrong_in_ties", none)) (by simp [tf0]) e4⟩
    F_beside := by
      obtain ⟨fd, F⟩ := c.def_ 14 (d := df_beside) rfl
      exact ⟨_, fd, He.glo_ok X G (c.fact 37 (f := .glo "beside") rfl), He5.fun_of F⟩
    F_do_hang := by
      obtain ⟨fd, F⟩ := c.def_ 15 (d := df_do_hang) rfl
      exact ⟨_, fd, He.glo_ok X G (c.fact 38 (f := .glo "do_hang") rfl), He5.fun_of F⟩
    F_Web_places := by
      obtain ⟨fd, F⟩ := S.a.def_ 0 (d := dp_Web_places) rfl
      exact ⟨_, _, fd, propB_ok e1, He5.fun_of F⟩
    F_pairs_of := by
      obtain ⟨fd, F⟩ := c.def_ 16 (d := df_pairs_of) rfl
      exact ⟨_, fd, He.glo_ok X G (c.fact 39 (f := .glo "pairs_of") rfl), He5.fun_of F⟩
    F_wrong_in_colours := by
      obtain ⟨fd, F⟩ := c.def_ 17 (d := df_wrong_in_colours) rfl
      exact ⟨_, fd, He.glo_ok X G (c.fact 40 (f := .glo "wrong_in_colours") rfl), He5.fun_of F⟩
    F_Web_ties := by
      obtain ⟨fd, F⟩ := S.a.def_ 1 (d := dp_Web_ties) rfl
      exact ⟨_, _, fd, propB_ok e2, He5.fun_of F⟩
    F_ways_between := by
      obtain ⟨fd, F⟩ := c.def_ 18 (d := df_ways_between) rfl
      exact ⟨_, fd, _, _, He.glo_ok X G (c.fact 41 (f := .glo "ways_between") rfl), func_of (p := ("ways_between", none)) F, hB ("ways_between", none) (by simp [tf0]), T0_mem (p := ("ways_between", none)) (by simp [tf0]), T0_one (p := ("ways_between", none)) (by simp [tf0]) e4⟩
    F_far_from := by
      obtain ⟨fd, F⟩ := c.def_ 19 (d := df_far_from) rfl
      exact ⟨_, fd, He.glo_ok X G (c.fact 42 (f := .glo "far_from") rfl), He5.fun_of F⟩
    F_span_by := by
      obtain ⟨fd, F⟩ := c.def_ 20 (d := df_span_by) rfl
      exact ⟨_, fd, He.glo_ok X G (c.fact 43 (f := .glo "span_by") rfl), He5.fun_of F⟩
    F_plain_colourings := by
      obtain ⟨fd, F⟩ := c.def_ 21 (d := df_plain_colourings) rfl
      exact ⟨_, fd, He.glo_ok X G (c.fact 44 (f := .glo "plain_colourings") rfl), He5.fun_of F⟩
    F_wrong_in_paint := by
      obtain ⟨fd, F⟩ := c.def_ 22 (d := df_wrong_in_paint) rfl
      exact ⟨_, fd, He.glo_ok X G (c.fact 45 (f := .glo "wrong_in_paint") rfl), He5.fun_of F⟩
    F_inner_lists := by
      obtain ⟨fd, F⟩ := c.def_ 23 (d := df_inner_lists) rfl
      exact ⟨_, fd, He.glo_ok X G (c.fact 46 (f := .glo "inner_lists") rfl), He5.fun_of F⟩
    F_are_unlike_at := by
      obtain ⟨fd, F⟩ := c.def_ 24 (d := df_are_unlike_at) rfl
      exact ⟨_, fd, He.glo_ok X G (c.fact 47 (f := .glo "are_unlike_at") rfl), He5.fun_of F⟩
    F_is_bright_on := by
      obtain ⟨fd, F⟩ := c.def_ 25 (d := df_is_bright_on) rfl
      exact ⟨_, fd, He.glo_ok X G (c.fact 48 (f := .glo "is_bright_on") rfl), He5.fun_of F⟩
    F_is_bright_by := by
      obtain ⟨fd, F⟩ := c.def_ 26 (d := df_is_bright_by) rfl
      exact ⟨_, fd, He.glo_ok X G (c.fact 49 (f := .glo "is_bright_by") rfl), He5.fun_of F⟩
    F_first_paint_by := by
      obtain ⟨fd, F⟩ := c.def_ 27 (d := df_first_paint_by) rfl
      exact ⟨_, fd, He.glo_ok X G (c.fact 50 (f := .glo "first_paint_by") rfl), He5.fun_of F⟩
    F_Web_init := by
      obtain ⟨fd, F⟩ := c.def_ 28 (d := df_Web_init) rfl
      exact ⟨_, fd, He.mkr_ok (c.fact 74 (f := .mkr "Web") rfl), He5.fun_of F⟩
    F_check_web := by
      obtain ⟨fd, F⟩ := c.def_ 29 (d := df_check_web) rfl
      exact ⟨_, fd, He.glo_ok X G (c.fact 51 (f := .glo "check_web") rfl), He5.fun_of F⟩
    F_span := by
      obtain ⟨fd, F⟩ := c.def_ 30 (d := df_span) rfl
      exact ⟨_, fd, He.glo_ok X G (c.fact 52 (f := .glo "span") rfl), He5.fun_of F⟩
    F_check_paint := by
      obtain ⟨fd, F⟩ := c.def_ 31 (d := df_check_paint) rfl
      exact ⟨_, fd, He.glo_ok X G (c.fact 53 (f := .glo "check_paint") rfl), He5.fun_of F⟩
    F_is_bright := by
      obtain ⟨fd, F⟩ := c.def_ 32 (d := df_is_bright) rfl
      exact ⟨_, fd, He.glo_ok X G (c.fact 54 (f := .glo "is_bright") rfl), He5.fun_of F⟩
    F_fewest_paint := by
      obtain ⟨fd, F⟩ := c.def_ 33 (d := df_fewest_paint) rfl
      exact ⟨_, fd, He.glo_ok X G (c.fact 55 (f := .glo "fewest_paint") rfl), He5.fun_of F⟩
    F_first_paint := by
      obtain ⟨fd, F⟩ := c.def_ 34 (d := df_first_paint) rfl
      exact ⟨_, fd, He.glo_ok X G (c.fact 56 (f := .glo "first_paint") rfl), He5.fun_of F⟩
    F__law_bowl := by
      obtain ⟨fd, F⟩ := c.def_ 35 (d := df__law_bowl) rfl
      exact ⟨_, fd, He.glo_ok X G (c.fact 57 (f := .glo "_law_bowl") rfl), He5.fun_of F⟩
    F__law_draw := by
      obtain ⟨fd, F⟩ := c.def_ 36 (d := df__law_draw) rfl
      exact ⟨_, fd, He.glo_ok X G (c.fact 58 (f := .glo "_law_draw") rfl), He5.fun_of F⟩
    F__law_of := by
      obtain ⟨fd, F⟩ := c.def_ 37 (d := df__law_of) rfl
      exact ⟨_, fd, He.glo_ok X G (c.fact 59 (f := .glo "_law_of") rfl), He5.fun_of F⟩
    F__law_same := by
      obtain ⟨fd, F⟩ := c.def_ 38 (d := df__law_same) rfl
      exact ⟨_, fd, He.glo_ok X G (c.fact 60 (f := .glo "_law_same") rfl), He5.fun_of F⟩
    F__law_names := by
      obtain ⟨fd, F⟩ := c.def_ 39 (d := df__law_names) rfl
      exact ⟨_, fd, He.glo_ok X G (c.fact 61 (f := .glo "_law_names") rfl), He5.fun_of F⟩
    F__law_web := by
      obtain ⟨fd, F⟩ := c.def_ 40 (d := df__law_web) rfl
      exact ⟨_, fd, He.glo_ok X G (c.fact 62 (f := .glo "_law_web") rfl), He5.fun_of F⟩
    F__law_beside := by
      obtain ⟨fd, F⟩ := c.def_ 41 (d := df__law_beside) rfl
      exact ⟨_, fd, He.glo_ok X G (c.fact 63 (f := .glo "_law_beside") rfl), He5.fun_of F⟩
    F__law_ways := by
      obtain ⟨fd, F⟩ := c.def_ 42 (d := df__law_ways) rfl
      exact ⟨_, fd, He.glo_ok X G (c.fact 64 (f := .glo "_law_ways") rfl), He5.fun_of F⟩
    F__law_pairs := by
      obtain ⟨fd, F⟩ := c.def_ 43 (d := df__law_pairs) rfl
      exact ⟨_, fd, He.glo_ok X G (c.fact 65 (f := .glo "_law_pairs") rfl), He5.fun_of F⟩
    F__law_grown := by
      obtain ⟨fd, F⟩ := c.def_ 44 (d := df__law_grown) rfl
      exact ⟨_, fd, He.glo_ok X G (c.fact 66 (f := .glo "_law_grown") rfl), He5.fun_of F⟩
    F__law_first := by
      obtain ⟨fd, F⟩ := c.def_ 45 (d := df__law_first) rfl
      exact ⟨_, fd, He.glo_ok X G (c.fact 67 (f := .glo "_law_first") rfl), He5.fun_of F⟩
    F__law_made := by
      obtain ⟨fd, F⟩ := c.def_ 46 (d := df__law_made) rfl
      exact ⟨_, fd, He.glo_ok X G (c.fact 68 (f := .glo "_law_made") rfl), He5.fun_of F⟩
    F__law_bright := by
      obtain ⟨fd, F⟩ := c.def_ 47 (d := df__law_bright) rfl
      exact ⟨_, fd, He.glo_ok X G (c.fact 69 (f := .glo "_law_bright") rfl), He5.fun_of F⟩
    F__law_right := by
      obtain ⟨fd, F⟩ := c.def_ 48 (d := df__law_right) rfl
      exact ⟨_, fd, He.glo_ok X G (c.fact 70 (f := .glo "_law_right") rfl), He5.fun_of F⟩
    F_law := by
      obtain ⟨fd, F⟩ := c.def_ 49 (d := df_law) rfl
      exact ⟨_, fd, He.glo_ok X G (c.fact 71 (f := .glo "law") rfl), He5.fun_of F⟩
    cWeb := He.glo_ok X G (c.fact 72 (f := .glo "Web") rfl)
    gf_is_colour := He.glo_ok X G (c.fact 31 (f := .glo "is_colour") rfl)
    cls := hcls
    na_all_told := He.noat_ok (c.fact 75 (f := .noat "Web" "all_told") rfl)
    insC := insB_ok hcls e3 }
def lo0_0 : List Str := ["LETTERS", "MOST_LETTERS", "WORDS", "is_whole", "is_between", "is_one_of", "is_word", "is_name", "is_tuple_of", "is_pair", "wrong_in", "wrong_in_all", "are_below", "LEAST_PLACES", "MOST_PLACES", "MOST_TIES", "MOST_COLOUR", "wrong_in_places", "is_tie_of", "wrong_in_ties", "beside", "do_hang", "pairs_of", "is_colour", "wrong_in_colours", "ways_between", "far_from", "span_by", "plain_colourings", "wrong_in_paint"]
def lo0_1 : List Str := ["inner_lists", "are_unlike_at", "is_bright_on", "is_bright_by", "first_paint_by", "WayError", "NotAWeb", "InvalidPlaces", "InvalidTies", "InvalidColouring", "NotWhole", "Web", "check_web", "span", "check_paint", "is_bright", "fewest_paint", "first_paint", "_law_bowl", "_law_draw", "_law_of", "_law_same", "_law_names", "_law_web", "_law_beside", "_law_ways", "_law_pairs", "_law_grown", "_law_first", "_law_made"]
def lo0_2 : List Str := ["_law_bright", "_law_right"]
def lo0 : List Str := lo0_0 ++ lo0_1 ++ lo0_2
def lawAtTop : Nat := 70
abbrev R0 : PySem.W.OpenRow := PySem.W.OpenLaw.row PySem.Challenge.rw_rainbowways_k34_whole_fewest_colours_of
abbrev hk0 : PySem.W.Hook := hookP 6 fa0 fn0 tf0 ex0 fp0
def ob0 (s : PySem.W.SharedT) : AlP := obsP 6 fa0 fn0 tf0 ex0 fp0 (HandSHeadRun.getT s)
theorem ob0_eq (s : PySem.W.SharedT) : ob0 s = hk0.obs s.abs := obsP_eq (HandSHeadRun.getT_eq s)
theorem run0 (w : World) : HandSHeadRun.RunEq R0 (PySem.W.view R0.prog [70]) hk0 ob0 4000 lo0 w := by
  intro os
  kernel_rfl
end Rv
end

section
set_option Elab.async false
set_option autoImplicit false
set_option linter.all false
set_option maxRecDepth 100000
set_option maxHeartbeats 0
open PySem PySem.W PySem.Calls PyProof.Rows in
theorem PySem.Challenge.cw_rainbowways_k34_whole_fewest_colours_of_holds : PySem.Challenge.rw_rainbowways_k34_whole_fewest_colours_of.Holds := by
  w_on; o_law
  refine HandSHeadRun.head_any (r := Rv.R0) (q := view Rv.R0.prog [70]) (H := Rv.hk0) (ob := Rv.ob0) (M := 4000) (loose := Rv.lo0) (d := HandSHeadRun.topDef Rv.R0.prog 70) (kwd := []) Rv.ob0_eq
    (by kernel_rfl) (fun s => by kernel_rfl) Rv.run0 (by kernel_rfl) (by kernel_rfl) (by kernel_rfl) (by rfl) (by first | assumption | decide +kernel) (by decide +kernel) ⟨rfl, rfl, rfl, rfl, rfl, by decide +kernel⟩ ?hw ?hc
  case hw => w_witness2
  case hc =>
    refine LamX.walk_ofTsE (l := PySem.Challenge.rw_rainbowways_k34_whole_fewest_colours_of) (n := 63) (k := 13) (x := "script") (CX := fun _ => L2.CX0) rfl (by decide) (by kernel_rfl) ⟨rfl, by decide, by decide⟩ ?F (fun _ _ _ _ _ z => z)
    intro w mg fa h Y G hmg0
    obtain ⟨K, KX, c⟩ := Y
    have hmg : mg ("law" : PySem.Str) = some (.ref fa) := by
      have e : (HandSHeadRun.topDef Rv.R0.prog 70).name = ("law" : PySem.Str) := by kernel_rfl
      rw [← e]
      exact hmg0
    obtain ⟨fd, F⟩ := c.x.t.d.def_ 49 (d := Rv.df_law) rfl
    have e := hmg.symm.trans (He.glo_ok KX G (c.x.t.d.fact 71 (f := .glo "law") rfl))
    cases e
    exact ⟨K, KX, Rv.law_at (st := Rv.st_law) (kws := []) (g := Rv.g_law) KX c hmg F Rv.bd_law (fun base hK hN hB => Rv.d_law (Rv.facts0 KX G c hB)) fun ns hl => Rv.law_true ns hl⟩
end
