import PyProof.Rows.All
import Wide.All
import OpenK.AllK
import Wide.FinOn
import HandS.ForMost
import HandS.ForExc
import HandS.EndTab
import HandS.AnyAll
import HandS.Wide
import HandS.FStr
import HandS.Conv
import HandS.Deep
import HandS.TupAny
import HandS.CallSlots
import HandS.Style
import HandS.Steps
import HandS.JoinGen
import HandS.Head0
import HandS.Head1
import HandS.Head2
import HandS.HeadEnd
import HandS.HeadHook1
import HandS.HeadHook2
import HandS.HeadHook3
import HandS.HeadHook4
import HandS.HeadWalk
import HandS.GenList
import HandS.Lambda
import PyProof.TupleOfGen
import HandS.Zip
import KE.GoesMore
import HandS.Flt
import HandS.TupMul
import PySem.Challenge.RW_paystack_k10_money_laid_by
set_option Elab.async false
set_option linter.all false
set_option maxRecDepth 100000
set_option maxHeartbeats 4000000
namespace Mi
open PySem L2

/-! ### data -/
inductive D where
  | non | bl (b : Bool) | int (i : Int) | str (x : Str)
  | tup (xs : List D) | lst (xs : List D) | dct (ks : List Key) (xs : List D)
  | ref (n : Nat) | lam (n : Nat) | scr (ns : List Int)
  deriving Inhabited
inductive SO where
  | lst (xs : List D) | dct (ks : List Key) (xs : List D) | ins (c : Str) (fs : List Str) (xs : List D)
  deriving Inhabited
abbrev Sto := List SO
abbrev En := List (Option D)
inductive Out (α : Type) where
  | ok (a : α) (m : Sto) | exc (c : Str) (m : Sto)
abbrev Cb (α : Type) := En → Sto → Option (Out α)

/-- what stays the same through the whole law -/
structure Gb where
  P : Program
  w : World
  K : PySem.W.Frag
  mg : Str → Option Value
  base : Heap
  T : List (Addr × Str)
  cls : Str → Addr

def KLst (K : PySem.W.Frag) (a : Addr) (xs : List V) : Prop :=
  ∃ (o : Obj) (its : Array Value) (n : Nat), K.lookup a = some o ∧ o.cls = .type "list" ∧ o.dict = none ∧ o.data = .seq its n ∧ its.size ≤ sizeLine ∧ Vals xs its.toList
def KTup (K : PySem.W.Frag) (a : Addr) (xs : List V) : Prop :=
  ∃ (o : Obj) (its : Array Value) (n : Nat), K.lookup a = some o ∧ o.cls = .type "tuple" ∧ o.data = .seq its n ∧ its.size ≤ sizeLine ∧ Vals xs its.toList
/-- of a frame: what its lambdas are (number, address, object); what is another frame's own -/
structure Lr where
  lam : Nat → Addr → Addr → Str → HO → Prop
  av : List Addr
abbrev Lr.pure (Λ : Lr) : Lr := ⟨fun _ _ _ _ _ => False, Λ.av⟩
/-- a frozen list, a tuple -/
def FzL (K : PySem.W.Frag) (Λ : Lr) (ι : List Addr) (H : Hp) (a : Addr) (xs : List V) : Prop := (Rd H a (.lst xs) ∧ a ∉ ι ∧ a ∉ Λ.av) ∨ KLst K a xs
def FzM (Λ : Lr) (ι : List Addr) (H : Hp) (a : Addr) (xs : List V) : Prop := Rd H a (.lst xs) ∧ a ∉ ι ∧ a ∉ Λ.av
def FzT (K : PySem.W.Frag) (Λ : Lr) (ι : List Addr) (H : Hp) (a : Addr) (xs : List V) : Prop := (Rd H a (.tup xs) ∧ a ∉ ι ∧ a ∉ Λ.av) ∨ KTup K a xs
theorem FzL.sq {K Λ ι H a xs} (h : FzL K Λ ι H a xs) : SqL K H a xs := h.elim (fun h => .inl h.1) .inr
theorem FzT.sq {K Λ ι H a xs} (h : FzT K Λ ι H a xs) : SqT K H a xs := h.elim (fun h => .inl h.1) .inr

mutual
/-- the value v stands for d -/
def Rep (K : PySem.W.Frag) (Λ : Lr) (ι : List Addr) (H : Hp) : D → V → Prop
  | .non, v => v = .non
  | .bl b, v => v = .bl b
  | .int i, v => v = .int i
  | .str x, v => v = .str x
  | .tup xs, v => ∃ a vs, v = .ref a ∧ FzT K Λ ι H a vs ∧ Reps K Λ ι H xs vs
  | .lst xs, v => ∃ a vs, v = .ref a ∧ FzM Λ ι H a vs ∧ Reps K Λ ι H xs vs
  | .dct ks xs, v => ∃ a kvs, v = .ref a ∧ Rd H a (.dK kvs) ∧ (a ∉ ι ∧ a ∉ Λ.av) ∧ kvs.map (·.1) = ks ∧ Reps K Λ ι H xs (kvs.map (·.2))
  | .ref n, v => ∃ a, v = .ref a ∧ ι[n]? = some a
  | .lam n, v => ∃ a c q o, v = .ref a ∧ H a = some o ∧ (∀ ps, o ≠ .tbl ps) ∧ (a ∉ ι ∧ a ∉ Λ.av) ∧ H c = some (LamX.CodeO c q) ∧ c ∉ ι ∧ Λ.lam n a c q o
  | .scr ns, v => ∃ a, v = .ref a ∧ FzL K Λ ι H a (ns.map V.int)
def Reps (K : PySem.W.Frag) (Λ : Lr) (ι : List Addr) (H : Hp) : List D → List V → Prop
  | [], vs => vs = []
  | d :: ds, vs => ∃ v r, vs = v :: r ∧ Rep K Λ ι H d v ∧ Reps K Λ ι H ds r
end

/-- nothing stands there but perhaps a table -/
def NT (H : Hp) (a : Addr) : Prop := ∀ o, H a = some o → ∃ ps, o = .tbl ps
theorem NT.of_none {H : Hp} {a : Addr} (h : H a = none) : NT H a := fun o e => by rw [h] at e; cases e
theorem NT.no {H : Hp} {a : Addr} {o : HO} (n : NT H a) (h : H a = some o) (nt : ∀ ps, o ≠ .tbl ps) : False := let ⟨ps, e⟩ := n o h; nt ps e
/-- what an evaluation may do: new store objects, all else that is tracked stays (the store's own and the tables apart) -/
structure Ext (ι : List Addr) (H : Hp) (ι' : List Addr) (H' : Hp) : Prop where
  pre : ∃ r, ι' = ι ++ r ∧ ∀ a ∈ r, NT H a
  keep : ∀ a o, H a = some o → (∀ ps, o ≠ .tbl ps) → a ∉ ι → H' a = some o
  nt : ∀ a, NT H' a → NT H a
theorem Ext.refl (ι H) : Ext ι H ι H := ⟨⟨[], by simp, by simp⟩, fun _ _ h _ _ => h, fun _ h => h⟩
theorem Ext.notin {ι H ι' H'} (e : Ext ι H ι' H') {a o} (h : H a = some o) (ht : ∀ ps, o ≠ .tbl ps) (n : a ∉ ι) : a ∉ ι' := by
  obtain ⟨r, rfl, hr⟩ := e.pre
  intro hm
  rcases List.mem_append.mp hm with z | z
  · exact n z
  · exact (hr a z).no h ht
theorem Ext.trans {ι H ι1 H1 ι2 H2} (e : Ext ι H ι1 H1) (f : Ext ι1 H1 ι2 H2) : Ext ι H ι2 H2 := by
  refine ⟨?_, fun a o h n ni => f.keep a o (e.keep a o h n ni) n (e.notin h n ni), fun a h => e.nt a (f.nt a h)⟩
  obtain ⟨r, rfl, hr⟩ := e.pre
  obtain ⟨q, rfl, hq⟩ := f.pre
  refine ⟨r ++ q, by simp, fun a ha => ?_⟩
  rcases List.mem_append.mp ha with z | z
  · exact hr a z
  · exact e.nt a (hq a z)
theorem Ext.get {ι H ι' H'} (e : Ext ι H ι' H') {n : Nat} {a : Addr} (h : ι[n]? = some a) : ι'[n]? = some a := by
  obtain ⟨r, rfl, _⟩ := e.pre
  rw [List.getElem?_append_left]
  · exact h
  · exact (List.getElem?_eq_some_iff.mp h).1
/-- everything stays -/
abbrev Sam (H H' : Hp) : Prop := ∀ a o, H a = some o → H' a = some o
theorem Ext.of_sam {ι H H'} (s : Sam H H') : Ext ι H ι H' := ⟨⟨[], by simp, by simp⟩, fun a o h _ _ => s a o h, fun a h o q => h o (s a o q)⟩
theorem sam_upd {H : Hp} {p : Addr} {o : HO} (h : H p = none) : Sam H (upd H p o) := fun a u e => by
  rw [upd_ne (ne_of_none e h)]; exact e
theorem Rd.ext {ι H ι' H' a u} (e : Ext ι H ι' H') (h : Rd H a u) (n : a ∉ ι) (nt : ∀ ps, u ≠ .tbl ps) : Rd H' a u ∧ a ∉ ι' := by
  rcases h with h | ⟨o, h⟩
  · exact ⟨.inl (e.keep _ _ h nt n), e.notin h nt n⟩
  · exact ⟨.inr ⟨o, e.keep _ _ h (by intro ps z; cases z) n⟩, e.notin h (by intro ps z; cases z) n⟩
theorem Rd.ext2 {ι H ι' H' a u} {av : List Addr} (e : Ext ι H ι' H') (h : Rd H a u) (n : a ∉ ι ∧ a ∉ av) (nt : ∀ ps, u ≠ .tbl ps) : Rd H' a u ∧ a ∉ ι' ∧ a ∉ av :=
  ⟨(Rd.ext e h n.1 nt).1, (Rd.ext e h n.1 nt).2, n.2⟩
theorem FzL.ext {K Λ ι H ι' H' a xs} (e : Ext ι H ι' H') (h : FzL K Λ ι H a xs) : FzL K Λ ι' H' a xs := h.elim (fun h => .inl (Rd.ext2 e h.1 h.2 (by intro ps z; cases z))) .inr
theorem FzM.ext {Λ ι H ι' H' a xs} (e : Ext ι H ι' H') (h : FzM Λ ι H a xs) : FzM Λ ι' H' a xs := Rd.ext2 e h.1 h.2 (by intro ps z; cases z)
theorem FzT.ext {K Λ ι H ι' H' a xs} (e : Ext ι H ι' H') (h : FzT K Λ ι H a xs) : FzT K Λ ι' H' a xs := h.elim (fun h => .inl (Rd.ext2 e h.1 h.2 (by intro ps z; cases z))) .inr
section
variable {K : PySem.W.Frag} {Λ : Lr} {ι ι' : List Addr} {H H' : Hp}
mutual
theorem Rep.ext (e : Ext ι H ι' H') : ∀ (d : D) {v : V}, Rep K Λ ι H d v → Rep K Λ ι' H' d v
  | .non, _, h => h
  | .bl _, _, h => h
  | .int _, _, h => h
  | .str _, _, h => h
  | .tup xs, _, ⟨a, vs, h1, h2, h3⟩ => ⟨a, vs, h1, h2.ext e, Reps.ext e xs h3⟩
  | .lst xs, _, ⟨a, vs, h1, h2, h3⟩ => ⟨a, vs, h1, h2.ext e, Reps.ext e xs h3⟩
  | .dct ks xs, _, ⟨a, kvs, h1, h2, h3, h4, h5⟩ => ⟨a, kvs, h1, (Rd.ext2 e h2 h3 (by intro ps z; cases z)).1, (Rd.ext2 e h2 h3 (by intro ps z; cases z)).2, h4, Reps.ext e xs h5⟩
  | .ref n, _, ⟨a, h1, h2⟩ => ⟨a, h1, e.get h2⟩
  | .lam n, _, ⟨a, c, q, o, h1, h2, h3, h4, h5, h6, h7⟩ => ⟨a, c, q, o, h1, e.keep _ _ h2 h3 h4.1, h3, ⟨e.notin h2 h3 h4.1, h4.2⟩, e.keep _ _ h5 LamX.codeO_ne h6, e.notin h5 LamX.codeO_ne h6, h7⟩
  | .scr ns, _, ⟨a, h1, h2⟩ => ⟨a, h1, h2.ext e⟩
theorem Reps.ext (e : Ext ι H ι' H') : ∀ (ds : List D) {vs : List V}, Reps K Λ ι H ds vs → Reps K Λ ι' H' ds vs
  | [], _, h => h
  | d :: ds, _, ⟨v, r, h1, h2, h3⟩ => ⟨v, r, h1, Rep.ext e d h2, Reps.ext e ds h3⟩
end
theorem Reps.len : ∀ {ds : List D} {vs : List V}, Reps K Λ ι H ds vs → ds.length = vs.length
  | [], _, h => by cases (show _ = [] from h); rfl
  | d :: ds, _, ⟨v, r, h1, _, h3⟩ => by subst h1; simp [Reps.len h3]
theorem Reps.get : ∀ {ds : List D} {vs : List V} {i : Nat} {d : D}, Reps K Λ ι H ds vs → ds[i]? = some d → ∃ v, vs[i]? = some v ∧ Rep K Λ ι H d v
  | [], _, _, _, _, e => by simp at e
  | d :: ds, _, 0, _, ⟨v, r, h1, h2, h3⟩, e => by simp at e; subst e; subst h1; exact ⟨v, rfl, h2⟩
  | d :: ds, _, i + 1, _, ⟨v, r, h1, h2, h3⟩, e => by
    subst h1
    obtain ⟨u, q1, q2⟩ := Reps.get (i := i) h3 (by simpa using e)
    exact ⟨u, by simpa using q1, q2⟩
theorem Reps.get' : ∀ {ds : List D} {vs : List V} {i : Nat} {v : V}, Reps K Λ ι H ds vs → vs[i]? = some v → ∃ d, ds[i]? = some d ∧ Rep K Λ ι H d v
  | [], _, _, _, h, e => by cases (show _ = [] from h); simp at e
  | d :: ds, _, 0, _, ⟨v, r, h1, h2, h3⟩, e => by subst h1; simp at e; subst e; exact ⟨d, rfl, h2⟩
  | d :: ds, _, i + 1, _, ⟨v, r, h1, h2, h3⟩, e => by
    subst h1
    obtain ⟨u, q1, q2⟩ := Reps.get' (i := i) h3 (by simpa using e)
    exact ⟨u, by simpa using q1, q2⟩
theorem Reps.app : ∀ {ds es : List D} {vs ws : List V}, Reps K Λ ι H ds vs → Reps K Λ ι H es ws → Reps K Λ ι H (ds ++ es) (vs ++ ws)
  | [], _, _, _, h, k => by cases (show _ = [] from h); exact k
  | d :: ds, _, _, _, ⟨v, r, h1, h2, h3⟩, k => by subst h1; exact ⟨v, r ++ _, rfl, h2, Reps.app h3 k⟩
theorem Reps.take : ∀ {ds : List D} {vs : List V} (n : Nat), Reps K Λ ι H ds vs → Reps K Λ ι H (ds.take n) (vs.take n)
  | _, _, 0, _ => rfl
  | [], _, n + 1, h => by cases (show _ = [] from h); rfl
  | d :: ds, _, n + 1, ⟨v, r, h1, h2, h3⟩ => by subst h1; exact ⟨v, r.take n, rfl, h2, Reps.take n h3⟩
theorem Reps.drop : ∀ {ds : List D} {vs : List V} (n : Nat), Reps K Λ ι H ds vs → Reps K Λ ι H (ds.drop n) (vs.drop n)
  | _, _, 0, h => h
  | [], _, n + 1, h => by cases (show _ = [] from h); rfl
  | d :: ds, _, n + 1, ⟨v, r, h1, h2, h3⟩ => by subst h1; exact Reps.drop n h3
theorem Reps.set : ∀ {ds : List D} {vs : List V} {d : D} {v : V} (n : Nat), Reps K Λ ι H ds vs → Rep K Λ ι H d v → Reps K Λ ι H (ds.set n d) (vs.set n v)
  | [], _, _, _, _, h, _ => by cases (show _ = [] from h); rfl
  | d :: ds, _, _, _, 0, ⟨v, r, h1, h2, h3⟩, k => by subst h1; exact ⟨_, r, rfl, k, h3⟩
  | d :: ds, _, _, _, n + 1, ⟨v, r, h1, h2, h3⟩, k => by subst h1; exact ⟨v, _, rfl, h2, Reps.set n h3 k⟩
theorem Reps.one {d : D} {v : V} (h : Rep K Λ ι H d v) : Reps K Λ ι H [d] [v] := ⟨v, [], rfl, h, rfl⟩
theorem Reps.ints : ∀ {ns : List Int} {vs : List V}, Reps K Λ ι H (ns.map .int) vs → vs = ns.map V.int
  | [], _, h => h
  | n :: ns, _, ⟨v, r, h1, h2, h3⟩ => by subst h1; cases (show v = .int n from h2); rw [Reps.ints h3]; rfl
theorem Reps.of_ints : ∀ {ns : List Int}, Reps K Λ ι H (ns.map .int) (ns.map V.int)
  | [] => rfl
  | n :: ns => ⟨_, _, rfl, rfl, Reps.of_ints⟩
end
mutual
/-- no lambda within -/
def lamf : D → Bool
  | .tup xs => lamfs xs
  | .lst xs => lamfs xs
  | .dct _ xs => lamfs xs
  | .lam _ => false
  | _ => true
def lamfs : List D → Bool
  | [] => true
  | d :: ds => lamf d && lamfs ds
end
mutual
/-- neither a lambda nor an object of the store within -/
def pur : D → Bool
  | .tup xs => purs xs
  | .lst xs => purs xs
  | .dct _ xs => purs xs
  | .lam _ => false
  | .ref _ => false
  | .scr _ => false
  | _ => true
def purs : List D → Bool
  | [] => true
  | d :: ds => pur d && purs ds
end
section
variable {K : PySem.W.Frag} {Λ Λ' : Lr} {ι ι' : List Addr} {H : Hp}
mutual
theorem Rep.lam (ha : Λ'.av = Λ.av) : ∀ (d : D) {v : V}, lamf d = true → Rep K Λ ι H d v → Rep K Λ' ι H d v
  | .non, _, _, h => h
  | .bl _, _, _, h => h
  | .int _, _, _, h => h
  | .str _, _, _, h => h
  | .tup xs, _, f, ⟨a, vs, h1, h2, h3⟩ => ⟨a, vs, h1, by unfold FzT at h2 ⊢; rw [ha]; exact h2, Reps.lam ha xs f h3⟩
  | .lst xs, _, f, ⟨a, vs, h1, h2, h3⟩ => ⟨a, vs, h1, by unfold FzM at h2 ⊢; rw [ha]; exact h2, Reps.lam ha xs f h3⟩
  | .dct ks xs, _, f, ⟨a, kvs, h1, h2, h3, h4, h5⟩ => ⟨a, kvs, h1, h2, by rw [ha]; exact h3, h4, Reps.lam ha xs f h5⟩
  | .ref n, _, _, h => h
  | .lam n, _, f, _ => by simp [lamf] at f
  | .scr ns, _, _, ⟨a, h1, h2⟩ => ⟨a, h1, by unfold FzL at h2 ⊢; rw [ha]; exact h2⟩
theorem Reps.lam (ha : Λ'.av = Λ.av) : ∀ (ds : List D) {vs : List V}, lamfs ds = true → Reps K Λ ι H ds vs → Reps K Λ' ι H ds vs
  | [], _, _, h => h
  | d :: ds, _, f, ⟨v, r, h1, h2, h3⟩ => by
    simp only [lamfs, Bool.and_eq_true] at f
    exact ⟨v, r, h1, Rep.lam ha d f.1 h2, Reps.lam ha ds f.2 h3⟩
end
mutual
theorem Rep.of_pure : ∀ (d : D) {v : V}, Rep K Λ.pure ι H d v → Rep K Λ ι H d v
  | .non, _, h => h
  | .bl _, _, h => h
  | .int _, _, h => h
  | .str _, _, h => h
  | .tup xs, _, ⟨a, vs, h1, h2, h3⟩ => ⟨a, vs, h1, h2, Reps.of_pure xs h3⟩
  | .lst xs, _, ⟨a, vs, h1, h2, h3⟩ => ⟨a, vs, h1, h2, Reps.of_pure xs h3⟩
  | .dct ks xs, _, ⟨a, kvs, h1, h2, h3, h4, h5⟩ => ⟨a, kvs, h1, h2, h3, h4, Reps.of_pure xs h5⟩
  | .ref n, _, h => h
  | .lam n, _, ⟨a, c, q, o, _, _, _, _, _, _, h⟩ => h.elim
  | .scr ns, _, h => h
theorem Reps.of_pure : ∀ (ds : List D) {vs : List V}, Reps K Λ.pure ι H ds vs → Reps K Λ ι H ds vs
  | [], _, h => h
  | d :: ds, _, ⟨v, r, h1, h2, h3⟩ => ⟨v, r, h1, Rep.of_pure d h2, Reps.of_pure ds h3⟩
end
mutual
/-- a datum without objects of the store, seen from another frame -/
theorem Rep.pur (hv : ∀ a, a ∉ ι → a ∉ Λ.av → a ∉ ι' ∧ a ∉ Λ'.av) : ∀ (d : D) {v : V}, pur d = true → Rep K Λ ι H d v → Rep K Λ' ι' H d v
  | .non, _, _, h => h
  | .bl _, _, _, h => h
  | .int _, _, _, h => h
  | .str _, _, _, h => h
  | .tup xs, _, f, ⟨a, vs, h1, h2, h3⟩ => ⟨a, vs, h1, h2.elim (fun h => .inl ⟨h.1, hv a h.2.1 h.2.2⟩) .inr, Reps.pur hv xs f h3⟩
  | .lst xs, _, f, ⟨a, vs, h1, h2, h3⟩ => ⟨a, vs, h1, ⟨h2.1, hv a h2.2.1 h2.2.2⟩, Reps.pur hv xs f h3⟩
  | .dct ks xs, _, f, ⟨a, kvs, h1, h2, h3, h4, h5⟩ => ⟨a, kvs, h1, h2, hv a h3.1 h3.2, h4, Reps.pur hv xs f h5⟩
  | .ref n, _, f, _ => by simp [Mi.pur] at f
  | .lam n, _, f, _ => by simp [Mi.pur] at f
  | .scr ns, _, f, _ => by simp [Mi.pur] at f
theorem Reps.pur (hv : ∀ a, a ∉ ι → a ∉ Λ.av → a ∉ ι' ∧ a ∉ Λ'.av) : ∀ (ds : List D) {vs : List V}, purs ds = true → Reps K Λ ι H ds vs → Reps K Λ' ι' H ds vs
  | [], _, _, h => h
  | d :: ds, _, f, ⟨v, r, h1, h2, h3⟩ => by
    simp only [purs, Bool.and_eq_true] at f
    exact ⟨v, r, h1, Rep.pur hv d f.1 h2, Reps.pur hv ds f.2 h3⟩
end
end

/-- the store -/
def ObjR (g : Gb) (Λ : Lr) (ι : List Addr) (H : Hp) : SO → Addr → Prop
  | .lst xs, a => ∃ vs, H a = some (.lst vs) ∧ Reps g.K Λ.pure ι H xs vs
  | .dct ks xs, a => ∃ kvs, H a = some (.dK kvs) ∧ kvs.map (·.1) = ks ∧ Reps g.K Λ.pure ι H xs (kvs.map (·.2))
  | .ins c fs xs, a => ∃ dx vfs, H a = some (.ins (g.cls c) dx vfs) ∧ (dx ∉ ι ∧ dx ∉ Λ.av) ∧ H dx = some (.own a) ∧ vfs.map (·.1) = fs ∧ Reps g.K Λ.pure ι H xs (vfs.map (·.2))
structure MR (g : Gb) (Λ : Lr) (ι : List Addr) (H : Hp) (μ : Sto) : Prop where
  len : ι.length = μ.length
  nd : ι.Nodup
  ob : ∀ (n : Nat) (so : SO), μ[n]? = some so → ∃ a : Addr, ι[n]? = some a ∧ ObjR g Λ ι H so a
  tabs : LamX.Tabs g.T H
  avs : ∀ a ∈ Λ.av, ¬ NT H a
/-- the frame's names -/
structure LR (g : Gb) (Λ : Lr) (ι : List Addr) (H : Hp) (σ : St) (ρ : En) : Prop where
  len : ρ.length = σ.length
  at_ : ∀ (i : Nat) (d : D), ρ[i]? = some (some d) → ∃ v : V, σ[i]? = some (some v) ∧ Rep g.K Λ ι H d v
theorem LR.ext {g Λ ι H ι' H' σ ρ} (e : Ext ι H ι' H') (h : LR g Λ ι H σ ρ) : LR g Λ ι' H' σ ρ := ⟨h.len, fun i d q => by
  obtain ⟨v, h1, h2⟩ := h.at_ i d q
  exact ⟨v, h1, h2.ext e⟩⟩
theorem LR.set {g Λ ι H σ ρ} (h : LR g Λ ι H σ ρ) {d : D} {v : V} (r : Rep g.K Λ ι H d v) (i : Nat) : LR g Λ ι H (σ.set i (some v)) (ρ.set i (some d)) := by
  refine ⟨by simp [h.len], fun j d' q => ?_⟩
  by_cases e : i = j
  · subst e
    have hl : i < ρ.length := by
      have := (List.getElem?_eq_some_iff.mp q).1
      simpa using this
    rw [List.getElem?_set_self hl] at q
    cases q
    exact ⟨v, List.getElem?_set_self (by rw [← h.len]; exact hl), r⟩
  · rw [List.getElem?_set_ne e] at q
    obtain ⟨u, h1, h2⟩ := h.at_ j d' q
    exact ⟨u, by rw [List.getElem?_set_ne e]; exact h1, h2⟩
theorem ObjR.sam {g Λ ι H H'} (s : Sam H H') : ∀ {so a}, ObjR g Λ ι H so a → ObjR g Λ ι H' so a
  | .lst xs, _, ⟨vs, h1, h2⟩ => ⟨vs, s _ _ h1, Reps.ext (.of_sam s) xs h2⟩
  | .dct ks xs, _, ⟨kvs, h1, h2, h3⟩ => ⟨kvs, s _ _ h1, h2, Reps.ext (.of_sam s) xs h3⟩
  | .ins c fs xs, _, ⟨dx, vfs, h1, h2, h3, h4, h5⟩ => ⟨dx, vfs, s _ _ h1, h2, s _ _ h3, h4, Reps.ext (.of_sam s) xs h5⟩
theorem MR.sam {g Λ ι H H' μ} (s : Sam H H') (h : MR g Λ ι H μ) : MR g Λ ι H' μ := ⟨h.len, h.nd, fun n so q => by
  obtain ⟨a, h1, h2⟩ := h.ob n so q
  exact ⟨a, h1, h2.sam s⟩, h.tabs.ext s, fun a ha n => h.avs a ha ((Ext.of_sam (ι := []) s).nt a n)⟩
/-- a mutable object of the store is no table, no frozen thing -/
theorem MR.mem {g Λ ι H μ} (h : MR g Λ ι H μ) {a : Addr} (ha : a ∈ ι) : (∃ vs, H a = some (.lst vs)) ∨ (∃ kvs, H a = some (.dK kvs)) ∨ ∃ C dx fs, H a = some (.ins C dx fs) := by
  obtain ⟨n, hn, e⟩ := List.getElem_of_mem ha
  have hm : n < μ.length := by rw [← h.len]; exact hn
  obtain ⟨b, h1, h2⟩ := h.ob n μ[n] (List.getElem?_eq_getElem hm)
  have : b = a := by rw [List.getElem?_eq_getElem hn] at h1; rw [← e]; exact (Option.some.inj h1).symm
  subst this
  cases q : μ[n] with
  | lst xs => rw [q] at h2; obtain ⟨vs, h2, _⟩ := h2; exact .inl ⟨vs, h2⟩
  | dct ks xs => rw [q] at h2; obtain ⟨vs, h2, _⟩ := h2; exact .inr (.inl ⟨vs, h2⟩)
  | ins c fs xs => rw [q] at h2; obtain ⟨dx, vs, h2, _⟩ := h2; exact .inr (.inr ⟨_, _, _, h2⟩)

/-! ### contexts, readings -/
structure XOk (g : Gb) (k : Nat) (X : Cx) : Prop where
  P : X.prog = g.P
  w : X.w = g.w
  K : X.K = g.K
  mg : X.mg = g.mg
  base : X.base = g.base
  calm : X.calm = true
  room : Room k X.A
  nd : X.N.Nodup
  po : PassesOwn (model X.prog X.w) X.A X.env X.xe
def Post (g : Gb) (Λ : Lr) (W : WX) (ι : List Addr) (H : Hp) (σ : St) (r : Out D) (Q : VK) : Prop :=
  match r with
  | .ok d μ => ∀ ι' H' v, Ext ι H ι' H' → MR g Λ ι' H' μ → Rep g.K Λ ι' H' d v → Q v H'
  | .exc c μ => ∀ ι' H', Ext ι H ι' H' → MR g Λ ι' H' μ → W (.ref (g.cls c)) none σ H'
def rdE (g : Gb) (Λ : Lr) (W : WX) (f : Cb D) : TE := fun σ H Q => ∃ ι ρ μ r, LR g Λ ι H σ ρ ∧ MR g Λ ι H μ ∧ f ρ μ = some r ∧ Post g Λ W ι H σ r Q
def DE (g : Gb) (k : Nat) (Λ : Lr) (X : Cx) (W : WX) (e : Expr) (f : Cb D) : Prop := XOk g k X → Takes X W → PE X e (rdE g Λ W f)
def PostA (g : Gb) (Λ : Lr) (W : WX) (ι : List Addr) (H : Hp) (σ : St) (r : Out (List D)) (Q : List V → Hp → Prop) : Prop :=
  match r with
  | .ok ds μ => ∀ ι' H' vs, Ext ι H ι' H' → MR g Λ ι' H' μ → Reps g.K Λ ι' H' ds vs → Q vs H'
  | .exc c μ => ∀ ι' H', Ext ι H ι' H' → MR g Λ ι' H' μ → W (.ref (g.cls c)) none σ H'
def rdA (g : Gb) (Λ : Lr) (W : WX) (f : Cb (List D)) : TA := fun σ H Q => ∃ ι ρ μ r, LR g Λ ι H σ ρ ∧ MR g Λ ι H μ ∧ f ρ μ = some r ∧ PostA g Λ W ι H σ r Q
def DA (g : Gb) (k : Nat) (Λ : Lr) (X : Cx) (W : WX) (es : List Expr) (f : Cb (List D)) : Prop := XOk g k X → Takes X W → PA X es (rdA g Λ W f)
def PostT (g : Gb) (Λ : Lr) (W : WX) (ι : List Addr) (H : Hp) (σ : St) (r : Out Bool) (Q : Bool → Hp → Prop) : Prop :=
  match r with
  | .ok b μ => ∀ ι' H', Ext ι H ι' H' → MR g Λ ι' H' μ → Q b H'
  | .exc c μ => ∀ ι' H', Ext ι H ι' H' → MR g Λ ι' H' μ → W (.ref (g.cls c)) none σ H'
def rdT (g : Gb) (Λ : Lr) (W : WX) (f : Cb Bool) : TT := fun σ H Q => ∃ ι ρ μ r, LR g Λ ι H σ ρ ∧ MR g Λ ι H μ ∧ f ρ μ = some r ∧ PostT g Λ W ι H σ r Q
def DT (g : Gb) (k : Nat) (Λ : Lr) (X : Cx) (W : WX) (e : Expr) (f : Cb Bool) : Prop := XOk g k X → Takes X W → PT X e (rdT g Λ W f)
theorem PE.imp {X : Cx} {e : Expr} {t u : TE} (h : PE X e t) (i : ∀ σ H Q, u σ H Q → t σ H Q) : PE X e u := ⟨fun pins s σ H Q I q => h.run pins s σ H Q I (i σ H Q q)⟩
theorem PT.imp {X : Cx} {e : Expr} {t u : TT} (h : PT X e t) (i : ∀ σ H Q, u σ H Q → t σ H Q) : PT X e u := ⟨fun pins s σ H Q I q => h.run pins s σ H Q I (i σ H Q q)⟩
theorem PA.imp {X : Cx} {e : List Expr} {t u : TA} (h : PA X e t) (i : ∀ σ H Q, u σ H Q → t σ H Q) : PA X e u := ⟨fun pos pins s σ H Q I q => h.run pos pins s σ H Q I (i σ H Q q)⟩

/-! ### plumbing -/
@[simp] def ob {α β : Type} (r : Option (Out α)) (k : α → Sto → Option (Out β)) : Option (Out β) :=
  match r with
  | some (.ok a m) => k a m
  | some (.exc c m) => some (.exc c m)
  | none => none
section
variable {g : Gb} {Λ : Lr} {W : WX} {ι : List Addr} {H : Hp} {σ : St} {ρ : En} {μ : Sto}
/-- first f, then what follows by its value -/
theorem rdE_bind {f : Cb D} {kk : D → Sto → Option (Out D)} {r : Out D} {R Q : VK} (l : LR g Λ ι H σ ρ) (m : MR g Λ ι H μ) (h : ob (f ρ μ) kk = some r) (p : Post g Λ W ι H σ r Q)
    (go : ∀ d μ1 ι1 H1 v, f ρ μ = some (.ok d μ1) → kk d μ1 = some r → Ext ι H ι1 H1 → MR g Λ ι1 H1 μ1 → LR g Λ ι1 H1 σ ρ → Rep g.K Λ ι1 H1 d v → Post g Λ W ι1 H1 σ r Q → R v H1) : rdE g Λ W f σ H R := by
  cases q : f ρ μ with
  | none => rw [q] at h; cases h
  | some o =>
    refine ⟨ι, ρ, μ, o, l, m, q, ?_⟩
    cases o with
    | ok d μ1 =>
      rw [q] at h
      intro ι1 H1 v e m1 r1
      refine go d μ1 ι1 H1 v q h e m1 (l.ext e) r1 ?_
      cases r with
      | ok d' μ' => exact fun ι2 H2 v2 e2 => p ι2 H2 v2 (e.trans e2)
      | exc c μ' => exact fun ι2 H2 e2 => p ι2 H2 (e.trans e2)
    | exc c μ1 =>
      rw [q] at h
      cases (show some (Out.exc c μ1) = some r from h)
      exact p
end
end Mi

set_option Elab.async false
set_option linter.all false
set_option maxRecDepth 100000
set_option maxHeartbeats 4000000
namespace Mi
open PySem L2

/-! ### new objects -/
section
variable {g : Gb} {Λ : Lr} {ι : List Addr} {H : Hp} {μ : Sto}
theorem MR.fresh (m : MR g Λ ι H μ) {p : Addr} (h : H p = none) : p ∉ ι ∧ p ∉ Λ.av := by
  refine ⟨fun hm => ?_, fun hm => m.avs p hm (.of_none h)⟩
  rcases m.mem hm with ⟨_, e⟩ | ⟨_, e⟩ | ⟨_, _, _, e⟩ <;> rw [h] at e <;> cases e
theorem new_tup (m : MR g Λ ι H μ) {p : Addr} (h : H p = none) {ds : List D} {vs : List V} (r : Reps g.K Λ ι H ds vs) :
    Ext ι H ι (upd H p (.tup vs)) ∧ MR g Λ ι (upd H p (.tup vs)) μ ∧ Rep g.K Λ ι (upd H p (.tup vs)) (.tup ds) (.ref p) :=
  ⟨.of_sam (sam_upd h), m.sam (sam_upd h), ⟨p, vs, rfl, .inl ⟨.inl upd_same, m.fresh h⟩, Reps.ext (.of_sam (sam_upd h)) ds r⟩⟩
theorem new_lst (m : MR g Λ ι H μ) {p : Addr} (h : H p = none) {ds : List D} {vs : List V} (r : Reps g.K Λ ι H ds vs) :
    Ext ι H ι (upd H p (.lst vs)) ∧ MR g Λ ι (upd H p (.lst vs)) μ ∧ Rep g.K Λ ι (upd H p (.lst vs)) (.lst ds) (.ref p) :=
  ⟨.of_sam (sam_upd h), m.sam (sam_upd h), ⟨p, vs, rfl, ⟨.inl upd_same, m.fresh h⟩, Reps.ext (.of_sam (sam_upd h)) ds r⟩⟩
theorem ext_push {p : Addr} {o : HO} (h : H p = none) : Ext ι H (ι ++ [p]) (upd H p o) :=
  ⟨⟨[p], rfl, fun a ha => by rw [show a = p by simpa using ha]; exact .of_none h⟩, fun a o e _ _ => sam_upd h a o e, (Ext.of_sam (ι := []) (sam_upd h)).nt⟩
theorem ObjR.ext {ι' : List Addr} {H' : Hp} (e : Ext ι H ι' H') (s : Sam H H') : ∀ {so a}, ObjR g Λ ι H so a → ObjR g Λ ι' H' so a
  | .lst xs, _, ⟨vs, h1, h2⟩ => ⟨vs, s _ _ h1, Reps.ext e xs h2⟩
  | .dct ks xs, _, ⟨kvs, h1, h2, h3⟩ => ⟨kvs, s _ _ h1, h2, Reps.ext e xs h3⟩
  | .ins c fs xs, _, ⟨dx, vfs, h1, h2, h3, h4, h5⟩ => ⟨dx, vfs, s _ _ h1, ⟨e.notin h3 (by intro ps z; cases z) h2.1, h2.2⟩, s _ _ h3, h4, Reps.ext e xs h5⟩
theorem new_mut (m : MR g Λ ι H μ) {p : Addr} (h : H p = none) {ds : List D} {vs : List V} (lf : lamfs ds = true) (r : Reps g.K Λ ι H ds vs) :
    Ext ι H (ι ++ [p]) (upd H p (.lst vs)) ∧ MR g Λ (ι ++ [p]) (upd H p (.lst vs)) (μ ++ [.lst ds]) ∧ Rep g.K Λ (ι ++ [p]) (upd H p (.lst vs)) (.ref μ.length) (.ref p) := by
  have e : Ext ι H (ι ++ [p]) (upd H p (.lst vs)) := ext_push h
  refine ⟨e, ⟨by simp [m.len], ?_, fun n so q => ?_, m.tabs.ext (sam_upd h), fun a ha => ?_⟩, ⟨p, rfl, ?_⟩⟩
  · refine List.nodup_append.mpr ⟨m.nd, by simp, fun a ha b hb => ?_⟩
    have : b = p := by simpa using hb
    rw [this]
    intro z
    rw [z] at ha
    exact (m.fresh h).1 ha
  · by_cases hn : n < μ.length
    · rw [List.getElem?_append_left hn] at q
      obtain ⟨a, h1, h2⟩ := m.ob n so q
      exact ⟨a, e.get h1, h2.ext e (sam_upd h)⟩
    · have hl : n = μ.length := by
        have := (List.getElem?_eq_some_iff.mp q).1
        simp at this
        omega
      subst hl
      rw [List.getElem?_concat_length] at q
      cases q
      exact ⟨p, by rw [← m.len, List.getElem?_concat_length], ⟨vs, upd_same, Reps.ext e ds (Reps.lam (Λ := Λ) (Λ' := Λ.pure) rfl ds lf r)⟩⟩
  · exact fun n => m.avs a ha (e.nt a n)
  · rw [← m.len, List.getElem?_concat_length]
end

/-! ### operations by data -/
def szl : Nat := 16777216
theorem szl_le {n : Nat} (h : n ≤ 16777216) : n ≤ sizeLine := by rw [sizeLine_eq]; omega
def vw (μ : Sto) : D → Option (List D)
  | .lst xs => some xs
  | .ref n => match μ[n]? with
    | some (.lst xs) => some xs
    | _ => none
  | _ => none
def DOp (g : Gb) (k : Nat) (Λ : Lr) (f : Value → Value → Sem Value) (o : Sto → D → D → Option D) : Prop := ∀ X, XOk g k X → OpR X f (fun x y H Q => ∃ ι μ a b d, MR g Λ ι H μ ∧ Rep g.K Λ ι H a x ∧ Rep g.K Λ ι H b y ∧ o μ a b = some d ∧
  ∀ ι' H' v, Ext ι H ι' H' → MR g Λ ι' H' μ → Rep g.K Λ ι' H' d v → Q v H')
section
variable {g : Gb} {k : Nat} {Λ : Lr} {X : Cx} {W : WX} {ι : List Addr} {H : Hp} {μ : Sto}
theorem vw_rd (m : MR g Λ ι H μ) : ∀ {d : D} {v : V} {ds : List D}, Rep g.K Λ ι H d v → vw μ d = some ds → ∃ a vs, v = .ref a ∧ Rd H a (.lst vs) ∧ Reps g.K Λ ι H ds vs
  | .lst xs, _, _, ⟨a, vs, h1, h2, h3⟩, e => by cases e; exact ⟨a, vs, h1, h2.1, h3⟩
  | .ref n, _, ds, ⟨a, h1, h2⟩, e => by
    rw [show vw μ (.ref n) = (match μ[n]? with | some (.lst xs) => some xs | _ => none) from rfl] at e
    split at e
    · rename_i xs q
      cases e
      obtain ⟨b, h3, vs, h4, h5⟩ := m.ob n _ q
      rw [h2] at h3
      cases h3
      exact ⟨a, vs, h1, .inl h4, Reps.of_pure _ h5⟩
    · cases e
  | .non, _, _, _, e => by cases e
  | .bl _, _, _, _, e => by cases e
  | .int _, _, _, _, e => by cases e
  | .str _, _, _, _, e => by cases e
  | .tup _, _, _, _, e => by cases e
  | .dct _ _, _, _, _, e => by cases e
  | .lam _, _, _, _, e => by cases e
  | .scr _, _, _, _, e => by cases e
end
theorem lstR {X : Cx} {pins : List (Addr × Obj)} {σ : St} {H : Hp} {s : Shared} {l : Addr} {xs : List V} (I : Inv X pins σ H s) (hH : Rd H l (.lst xs)) : xs.length ≤ sizeLine ∧ ∃ (its : List Value) (n : Nat), Vals xs its ∧ xs.length = its.length ∧ s.heap.get? l = some { cls := .type "list", data := .seq its.toArray n } := by
  obtain ⟨z, its, n, r, e⟩ := hH.ok I.hok
  exact ⟨z, its, n, r, r.length, e⟩
theorem op_catR {X : Cx} : OpR X (binaryOp .Add) (fun x y H Q => ∃ l b xs zs, x = .ref l ∧ y = .ref b ∧ Rd H l (.lst xs) ∧ Rd H b (.lst zs) ∧ xs.length + zs.length ≤ sizeLine ∧ ∀ p, H p = none → Q (.ref p) (upd H p (.lst (xs ++ zs)))) := by
  intro pins s σ H x y v u Q I rx ry h
  obtain ⟨l, b, xs, zs, rfl, rfl, hH, hB, hz, q⟩ := h
  cases rx
  cases ry
  obtain ⟨z, its, n, r, hl, e⟩ := lstR I hH
  obtain ⟨z2, its2, n2, r2, hl2, e2⟩ := lstR I hB
  refine PySem.P.add_list e e2 ?_ (by rw [List.size_toArray, List.size_toArray]; omega)
  have ea : its.toArray ++ its2.toArray = (its ++ its2).toArray := by simp
  rw [ea]
  exact ⟨.ref _, _, I.lnew (t' := s.toks) (r.append r2) (by rw [List.length_append]; omega), rfl, q _ I.fresh⟩
def dAdd (μ : Sto) : D → D → Option D
  | .int i, .int j => some (.int (i + j))
  | .str x, .str y => if x.length + y.length ≤ 16777216 then some (.str (x ++ y)) else none
  | .tup xs, .tup ys => if xs.length + ys.length ≤ 16777216 then some (.tup (xs ++ ys)) else none
  | a, b => match vw μ a, vw μ b with
    | some xs, some ys => if xs.length + ys.length ≤ 16777216 then some (.lst (xs ++ ys)) else none
    | _, _ => none
theorem op_add_all {X : Cx} : OpR X (binaryOp .Add) (fun x y H Q => (rI0 (fun i j => .int (i + j)) x y H Q) ∨ (∃ i j, x = .str i ∧ y = .str j ∧ i.length + j.length ≤ sizeLine ∧ Q (.str (i ++ j)) H) ∨ rCatA X.K x y H Q ∨
    (∃ l b xs zs, x = .ref l ∧ y = .ref b ∧ Rd H l (.lst xs) ∧ Rd H b (.lst zs) ∧ xs.length + zs.length ≤ sizeLine ∧ ∀ p, H p = none → Q (.ref p) (upd H p (.lst (xs ++ zs))))) := by
  intro pins s σ H x y v u Q I rx ry h
  rcases h with h | h | h | h
  · exact op_add pins s σ H x y v u Q I rx ry h
  · exact op_add_str pins s σ H x y v u Q I rx ry h
  · exact op_catA pins s σ H x y v u Q I rx ry h
  · exact op_catR pins s σ H x y v u Q I rx ry h
section
variable {g : Gb} {k : Nat} {Λ : Lr}
theorem dop_add : DOp g k Λ (binaryOp .Add) dAdd := by
  intro X ok pins s σ H x y v u Q I rx ry ⟨ι, μ, a, b, d, m, ra, rb, e, q⟩
  refine op_add_all pins s σ H x y v u Q I rx ry ?_
  have cat : ∀ {xs ys : List D}, vw μ a = some xs → vw μ b = some ys → xs.length + ys.length ≤ 16777216 → d = .lst (xs ++ ys) →
      (∃ l b xs zs, x = .ref l ∧ y = .ref b ∧ Rd H l (.lst xs) ∧ Rd H b (.lst zs) ∧ xs.length + zs.length ≤ sizeLine ∧ ∀ p, H p = none → Q (.ref p) (upd H p (.lst (xs ++ zs)))) := by
    intro xs ys h1 h2 hz hd
    obtain ⟨l, vs, e1, r1, q1⟩ := vw_rd m ra h1
    obtain ⟨l2, vs2, e2, r2, q2⟩ := vw_rd m rb h2
    refine ⟨l, l2, vs, vs2, e1, e2, r1, r2, szl_le (by rw [← q1.len, ← q2.len]; exact hz), fun p hp => ?_⟩
    obtain ⟨x1, x2, x3⟩ := new_lst m hp (q1.app q2)
    rw [hd] at q
    exact q _ _ _ x1 x2 x3
  unfold dAdd at e
  split at e
  · cases e; cases ra; cases rb
    exact .inl ⟨_, _, rfl, rfl, q ι H _ (.refl _ _) m rfl⟩
  · split at e
    · cases e; cases ra; cases rb
      exact .inr (.inl ⟨_, _, rfl, rfl, szl_le ‹_›, q ι H _ (.refl _ _) m rfl⟩)
    · cases e
  · split at e
    · cases e
      rename_i xs ys hz
      obtain ⟨a1, vs, e1, h1, q1⟩ := ra
      obtain ⟨a2, vs2, e2, h2, q2⟩ := rb
      refine .inr (.inr (.inl ⟨a1, a2, vs, vs2, e1, e2, by rw [ok.K]; exact h1.sq, by rw [ok.K]; exact h2.sq, szl_le (by rw [← q1.len, ← q2.len]; exact hz), fun z => ?_, fun _ z => ?_, fun _ _ p hp => ?_⟩))
      · subst z
        have hx : xs = [] := List.length_eq_zero_iff.mp q1.len
        subst hx
        exact q ι H _ (.refl _ _) m ⟨a2, vs2, rfl, h2, q2⟩
      · subst z
        have hx : ys = [] := List.length_eq_zero_iff.mp q2.len
        subst hx
        rw [List.append_nil] at q
        exact q ι H _ (.refl _ _) m ⟨a1, vs, rfl, h1, q1⟩
      · obtain ⟨x1, x2, x3⟩ := new_tup m hp (q1.app q2)
        exact q _ _ _ x1 x2 x3
    · cases e
  · split at e
    · rename_i xs ys h1 h2
      split at e
      · cases e; exact .inr (.inr (.inr (cat h1 h2 ‹_› rfl)))
      · cases e
    · cases e
/-- ints alone -/
def dI (C : Int → Int → Bool) (f : Int → Int → D) (_ : Sto) : D → D → Option D
  | .int i, .int j => if C i j then some (f i j) else none
  | _, _ => none
theorem dop_I {op : Value → Value → Sem Value} {C : Int → Int → Bool} {f : Int → Int → D} {P : Int → Int → Prop} {h : Int → Int → V} (hr : ∀ X : Cx, OpR X op (rI P h)) (hc : ∀ i j, C i j = true → P i j) (hf : ∀ i j K Λ ι H, Rep K Λ ι H (f i j) (h i j)) :
    DOp g k Λ op (dI C f) := by
  intro X ok pins s σ H x y v u Q I rx ry ⟨ι, μ, a, b, d, m, ra, rb, e, q⟩
  refine hr X pins s σ H x y v u Q I rx ry ?_
  unfold dI at e
  split at e
  · split at e
    · cases e; cases ra; cases rb
      exact ⟨_, _, rfl, rfl, hc _ _ ‹_›, q ι H _ (.refl _ _) m (hf _ _ _ _ _ _)⟩
    · cases e
  · cases e
theorem dop_I0 {op : Value → Value → Sem Value} {f : Int → Int → D} {h : Int → Int → V} (hr : ∀ X : Cx, OpR X op (rI0 h)) (hf : ∀ i j K Λ ι H, Rep K Λ ι H (f i j) (h i j)) :
    DOp g k Λ op (dI (fun _ _ => true) f) := by
  intro X ok pins s σ H x y v u Q I rx ry ⟨ι, μ, a, b, d, m, ra, rb, e, q⟩
  refine hr X pins s σ H x y v u Q I rx ry ?_
  unfold dI at e
  split at e
  · simp at e
    subst e
    cases ra; cases rb
    exact ⟨_, _, rfl, rfl, q ι H _ (.refl _ _) m (hf _ _ _ _ _ _)⟩
  · cases e
def dSub := dI (fun _ _ => true) fun i j => .int (i - j)
def mulOk (i j : Int) : Bool := (decide (-18446744073709551616 < i) && decide (i < 18446744073709551616)) || (decide (-18446744073709551616 < j) && decide (j < 18446744073709551616))
def dMul := dI mulOk fun i j => .int (i * j)
def divOk (i j : Int) : Bool := decide (0 < j) && decide (j < 1073741824)
def dDiv := dI divOk fun i j => .int (i / j)
def modOk (_ j : Int) : Bool := decide (0 < j)
def dMod := dI modOk fun i j => .int (i % j)
def powOk (i j : Int) : Bool := decide (0 ≤ j) && decide (j ≤ 1000) && decide (i.natAbs < 18446744073709551616)
def dPow := dI powOk fun i j => .int (i ^ j.toNat)
theorem dop_sub : DOp g k Λ (binaryOp .Sub) dSub := dop_I0 (h := fun i j => .int (i - j)) (fun _ => op_sub) fun _ _ _ _ _ _ => rfl
theorem dop_mul : DOp g k Λ (binaryOp .Mult) dMul := dop_I (P := CMul) (h := fun i j => .int (i * j)) (fun _ => op_mul) (fun i j h => by
  unfold mulOk at h
  simp only [Bool.or_eq_true, Bool.and_eq_true, decide_eq_true_eq] at h
  exact h) fun _ _ _ _ _ _ => rfl
theorem dop_div : DOp g k Λ (binaryOp .FloorDiv) dDiv := dop_I (P := CDiv) (h := fun i j => .int (i / j)) (fun _ => op_fdiv) (fun i j h => by
  unfold divOk at h
  simp only [Bool.and_eq_true, decide_eq_true_eq] at h
  exact h) fun _ _ _ _ _ _ => rfl
theorem dop_mod : DOp g k Λ (binaryOp .Mod) dMod := dop_I (P := fun _ j => 0 < j) (h := fun i j => .int (i % j)) (fun _ => op_mod) (fun i j h => by
  unfold modOk at h
  simp only [decide_eq_true_eq] at h
  exact h) fun _ _ _ _ _ _ => rfl
theorem dop_pow : DOp g k Λ (binaryOp .Pow) dPow := dop_I (P := CPow) (h := fun i j => .int (i ^ j.toNat)) (fun _ => op_pow) (fun i j h => by
  unfold powOk at h
  simp only [Bool.and_eq_true, decide_eq_true_eq] at h
  exact ⟨h.1.1, by omega, h.2⟩) fun _ _ _ _ _ _ => rfl
def dLt := dI (fun _ _ => true) fun i j => .bl (decide (i < j))
def dLe := dI (fun _ _ => true) fun i j => .bl (decide (i ≤ j))
def dGt := dI (fun _ _ => true) fun i j => .bl (decide (j < i))
def dGe := dI (fun _ _ => true) fun i j => .bl (decide (j ≤ i))
theorem dop_lt : DOp g k Λ (compareOp .Lt) dLt := dop_I0 (h := fun i j => .bl (decide (i < j))) (fun _ => op_lt) fun _ _ _ _ _ _ => rfl
theorem dop_le : DOp g k Λ (compareOp .LtE) dLe := dop_I0 (h := fun i j => .bl (decide (i ≤ j))) (fun _ => op_le) fun _ _ _ _ _ _ => rfl
theorem dop_gt : DOp g k Λ (compareOp .Gt) dGt := dop_I0 (h := fun i j => .bl (decide (j < i))) (fun _ => op_gt) fun _ _ _ _ _ _ => rfl
theorem dop_ge : DOp g k Λ (compareOp .GtE) dGe := dop_I0 (h := fun i j => .bl (decide (j ≤ i))) (fun _ => op_ge) fun _ _ _ _ _ _ => rfl
end
/-! ### == of data -/
mutual
def pd : D → Option PyData
  | .non => some .none
  | .bl b => some (.bool b)
  | .int i => some (.int i)
  | .str x => some (.str x)
  | .tup xs => match pds xs with
    | some ys => some (.tuple ys)
    | none => none
  | .lst xs => match pds xs with
    | some ys => some (.list ys)
    | none => none
  | _ => none
def pds : List D → Option (List PyData)
  | [] => some []
  | d :: ds => match pd d, pds ds with
    | some x, some xs => some (x :: xs)
    | _, _ => none
end
section
variable {K : PySem.W.Frag} {Λ : Lr} {ι : List Addr} {H : Hp}
mutual
theorem pd_dp : ∀ {d : D} {v : V} {p : PyData}, Rep K Λ ι H d v → pd d = some p → Dp K H v p
  | .non, _, _, h, e => by cases e; cases h; exact .non
  | .bl b, _, _, h, e => by cases e; cases h; exact .bl b
  | .int i, _, _, h, e => by cases e; cases h; exact .int i
  | .str x, _, _, h, e => by cases e; cases h; exact .str x
  | .tup xs, _, p, ⟨a, vs, h1, h2, h3⟩, e => by
    unfold pd at e
    split at e
    · rename_i ys q; cases e; subst h1; exact .tup h2.sq (pds_dp h3 q)
    · cases e
  | .lst xs, _, p, ⟨a, vs, h1, h2, h3⟩, e => by
    unfold pd at e
    split at e
    · rename_i ys q; cases e; subst h1; exact .lst (.inl h2.1) (pds_dp h3 q)
    · cases e
  | .dct _ _, _, _, _, e => by simp [pd] at e
  | .ref _, _, _, _, e => by simp [pd] at e
  | .lam _, _, _, _, e => by simp [pd] at e
  | .scr _, _, _, _, e => by simp [pd] at e
theorem pds_dp : ∀ {ds : List D} {vs : List V} {ps : List PyData}, Reps K Λ ι H ds vs → pds ds = some ps → DpAll K H vs ps
  | [], _, _, h, e => by cases (show _ = [] from h); simp [pds] at e; subst e; exact .nil
  | d :: ds, _, ps, ⟨v, r, h1, h2, h3⟩, e => by
    unfold pds at e
    split at e
    · rename_i x xs q1 q2; cases e; subst h1; exact .cons (pd_dp h2 q1) (pds_dp h3 q2)
    · cases e
end
end
def dEqB : D → D → Option Bool
  | .int i, .int j => some (i == j)
  | .str x, .str y => some (decide (x = y))
  | .bl a, .bl b => some (a == b)
  | a, b => match pd a, pd b with
    | some p, some q => if SeqAt.shaped p && SeqAt.shaped q then some (PyData.eqv p q) else none
    | _, _ => none
def dEq (_ : Sto) (a b : D) : Option D := match dEqB a b with
  | some r => some (.bl r)
  | none => none
def dNe (_ : Sto) (a b : D) : Option D := match dEqB a b with
  | some r => some (.bl (!r))
  | none => none
section
variable {g : Gb} {k : Nat} {Λ : Lr}
theorem eqB_rd {X : Cx} {ι : List Addr} {H : Hp} {a b : D} {x y : V} {r : Bool} (ok : XOk g k X) (ra : Rep g.K Λ ι H a x) (rb : Rep g.K Λ ι H b y) (e : dEqB a b = some r) :
    (scal x y = true ∧ decide (x = y) = r) ∨ ∃ d e, Dp X.K H x d ∧ Dp X.K H y e ∧ SeqAt.shaped d = true ∧ SeqAt.shaped e = true ∧ PyData.eqv d e = r := by
  unfold dEqB at e
  split at e
  · cases e; cases ra; cases rb; exact .inl ⟨rfl, dec_int⟩
  · cases e; cases ra; cases rb
    refine .inl ⟨rfl, ?_⟩
    rw [Bool.eq_iff_iff]; simp
  · cases e; cases ra; cases rb
    refine .inl ⟨rfl, ?_⟩
    rw [Bool.eq_iff_iff]; simp
  · split at e
    · rename_i p q h1 h2
      split at e
      · rename_i hs
        cases e
        simp only [Bool.and_eq_true] at hs
        exact .inr ⟨p, q, by rw [ok.K]; exact pd_dp ra h1, by rw [ok.K]; exact pd_dp rb h2, hs.1, hs.2, rfl⟩
      · cases e
    · cases e
theorem dop_eq : DOp g k Λ (compareOp .Eq) dEq := by
  intro X ok pins s σ H x y v u Q I rx ry ⟨ι, μ, a, b, d, m, ra, rb, e, q⟩
  unfold dEq at e
  split at e
  · rename_i r hr
    cases e
    rcases eqB_rd ok ra rb hr with ⟨h1, h2⟩ | ⟨p, p', h1, h2, h3, h4, h5⟩
    · exact op_eq pins s σ H x y v u Q I rx ry ⟨h1, q ι H _ (.refl _ _) m (by rw [h2]; rfl)⟩
    · exact op_eqD (by have := ok.room.units; exact this) pins s σ H x y v u Q I rx ry ⟨p, p', h1, h2, h3, h4, q ι H _ (.refl _ _) m (by rw [h5]; rfl)⟩
  · cases e
theorem dop_ne : DOp g k Λ (compareOp .NotEq) dNe := by
  intro X ok pins s σ H x y v u Q I rx ry ⟨ι, μ, a, b, d, m, ra, rb, e, q⟩
  unfold dNe at e
  split at e
  · rename_i r hr
    cases e
    rcases eqB_rd ok ra rb hr with ⟨h1, h2⟩ | ⟨p, p', h1, h2, h3, h4, h5⟩
    · exact op_ne pins s σ H x y v u Q I rx ry ⟨h1, q ι H _ (.refl _ _) m (by rw [h2]; rfl)⟩
    · exact op_neD (by have := ok.room.units; exact this) pins s σ H x y v u Q I rx ry ⟨p, p', h1, h2, h3, h4, q ι H _ (.refl _ _) m (by rw [h5]; rfl)⟩
  · cases e
end
/-! ### in -/
def flD : D → Bool
  | .non => true | .bl _ => true | .int _ => true | .str _ => true | _ => false
def eqF : D → D → Bool
  | .non, .non => true
  | .bl a, .bl b => a == b
  | .bl a, .int b => (if a then 1 else 0) == b
  | .int a, .bl b => a == (if b then 1 else 0)
  | .int a, .int b => a == b
  | .str a, .str b => a == b
  | _, _ => false
def inF (x : D) (xs : List D) : Bool := xs.any fun y => eqF y x
def sqD (μ : Sto) : D → Option (List D)
  | .tup xs => some xs
  | d => vw μ d
def dInB (μ : Sto) (x y : D) : Option Bool := match x, y with
  | .str s, .str z => match s.cps.toList with
    | [c] => some (decide (c ∈ z.cps.toList))
    | _ => none
  | x, y => match sqD μ y with
    | some ys => if flD x && ys.all flD then some (inF x ys) else none
    | none => none
def dIn (μ : Sto) (x y : D) : Option D := match dInB μ x y with
  | some r => some (.bl r)
  | none => none
def dNin (μ : Sto) (x y : D) : Option D := match dInB μ x y with
  | some r => some (.bl (!r))
  | none => none
section
variable {g : Gb} {k : Nat} {Λ : Lr} {ι : List Addr} {H : Hp} {μ : Sto}
theorem sq_rd (m : MR g Λ ι H μ) {d : D} {v : V} {ds : List D} (r : Rep g.K Λ ι H d v) (e : sqD μ d = some ds) : ∃ a vs, v = .ref a ∧ (SqL g.K H a vs ∨ SqT g.K H a vs) ∧ Reps g.K Λ ι H ds vs := by
  unfold sqD at e
  split at e
  · cases e
    obtain ⟨a, vs, h1, h2, h3⟩ := r
    exact ⟨a, vs, h1, .inr h2.sq, h3⟩
  · obtain ⟨a, vs, h1, h2, h3⟩ := vw_rd m r e
    exact ⟨a, vs, h1, .inl (.inl h2), h3⟩
theorem fl_rep {d : D} {v : V} (r : Rep g.K Λ ι H d v) (h : flD d = true) : flatV v = true := by
  cases d <;> first | (cases r; rfl) | (simp [flD] at h)
theorem eqF_rep {d e : D} {v u : V} (r : Rep g.K Λ ι H d v) (q : Rep g.K Λ ι H e u) (h : flD d = true) (h2 : flD e = true) : eqV v u = eqF d e := by
  cases d <;> first | (simp [flD] at h; done) | (cases r; cases e <;> first | (simp [flD] at h2; done) | (cases q; rfl))
theorem inF_rep {d : D} {v : V} (r : Rep g.K Λ ι H d v) (h : flD d = true) : ∀ {ds : List D} {vs : List V}, Reps g.K Λ ι H ds vs → ds.all flD = true → vs.all flatV = true ∧ inV v vs = inF d ds
  | [], _, q, _ => by cases (show _ = [] from q); exact ⟨rfl, rfl⟩
  | x :: xs, _, ⟨y, r', e, h1, h3⟩, ha => by
    subst e
    simp only [List.all_cons, Bool.and_eq_true] at ha
    obtain ⟨q1, q2⟩ := inF_rep r h h3 ha.2
    refine ⟨by simp [fl_rep h1 ha.1, q1], ?_⟩
    unfold inV inF at q2 ⊢
    rw [List.any_cons, List.any_cons, q2, eqF_rep h1 r ha.1 h]
theorem inB_rd {X : Cx} (ok : XOk g k X) (m : MR g Λ ι H μ) {a b : D} {x y : V} {r : Bool} (ra : Rep g.K Λ ι H a x) (rb : Rep g.K Λ ι H b y) (e : dInB μ a b = some r) :
    (∃ (c : Nat) (z : Str), x = .str ⟨#[c]⟩ ∧ y = .str z ∧ decide (c ∈ z.cps.toList) = r) ∨ ∃ p xs, y = .ref p ∧ (SqL X.K H p xs ∨ SqT X.K H p xs) ∧ flatV x = true ∧ xs.all flatV = true ∧ inV x xs = r := by
  unfold dInB at e
  split at e
  · rename_i s z
    split at e
    · rename_i c hc
      cases e; cases ra; cases rb
      refine .inl ⟨c, z, ?_, rfl, rfl⟩
      have : s = ⟨#[c]⟩ := by
        cases s with
        | mk cps =>
          have : cps = #[c] := by rw [← Array.toArray_toList (xs := cps), hc]
          rw [this]
      rw [this]
    · cases e
  · split at e
    · rename_i ys hy
      split at e
      · rename_i hf
        cases e
        simp only [Bool.and_eq_true] at hf
        obtain ⟨p, vs, h1, h2, h3⟩ := sq_rd m rb hy
        obtain ⟨q1, q2⟩ := inF_rep ra hf.1 h3 hf.2
        exact .inr ⟨p, vs, h1, by rw [ok.K]; exact h2, fl_rep ra hf.1, q1, q2⟩
      · cases e
    · cases e
theorem dop_in : DOp g k Λ (compareOp .In) dIn := by
  intro X ok pins s σ H x y v u Q I rx ry ⟨ι, μ, a, b, d, m, ra, rb, e, q⟩
  unfold dIn at e
  split at e
  · rename_i r hr
    cases e
    rcases inB_rd ok m ra rb hr with ⟨c, z, h1, h2, h3⟩ | ⟨p, xs, h1, h2, h3, h4, h5⟩
    · exact op_in_sign pins s σ H x y v u Q I rx ry ⟨c, z, h1, h2, q ι H _ (.refl _ _) m (by rw [h3]; rfl)⟩
    · exact op_in_seq pins s σ H x y v u Q I rx ry ⟨p, xs, h1, h2, h3, h4, q ι H _ (.refl _ _) m (by rw [h5]; rfl)⟩
  · cases e
theorem dop_nin : DOp g k Λ (compareOp .NotIn) dNin := by
  intro X ok pins s σ H x y v u Q I rx ry ⟨ι, μ, a, b, d, m, ra, rb, e, q⟩
  unfold dNin at e
  split at e
  · rename_i r hr
    cases e
    rcases inB_rd ok m ra rb hr with ⟨c, z, h1, h2, h3⟩ | ⟨p, xs, h1, h2, h3, h4, h5⟩
    · exact op_notIn_sign pins s σ H x y v u Q I rx ry ⟨c, z, h1, h2, q ι H _ (.refl _ _) m (by rw [h3]; rfl)⟩
    · exact op_notIn_seq pins s σ H x y v u Q I rx ry ⟨p, xs, h1, h2, h3, h4, q ι H _ (.refl _ _) m (by rw [h5]; rfl)⟩
  · cases e
end
end Mi

set_option Elab.async false
set_option linter.all false
set_option maxRecDepth 100000
set_option maxHeartbeats 4000000
namespace Mi
open PySem L2

@[simp] def rt {α : Type} (r : Option α) (μ : Sto) : Option (Out α) := match r with
  | some d => some (.ok d μ)
  | none => none
/-! ### the combinators -/
def bVar (i : Nat) : Cb D := fun ρ μ => match ρ[i]? with
  | some (some d) => some (.ok d μ)
  | _ => none
def bCon (d : D) : Cb D := fun _ μ => some (.ok d μ)
def bStuck {α : Type} : Cb α := fun _ _ => none
def bBin (o : Sto → D → D → Option D) (fa fb : Cb D) : Cb D := fun ρ μ => ob (fa ρ μ) fun x μ1 => ob (fb ρ μ1) fun y μ2 => rt (o μ2 x y) μ2
def bNeg (fa : Cb D) : Cb D := fun ρ μ => ob (fa ρ μ) fun x μ1 => match x with
  | .int i => some (.ok (.int (-i)) μ1)
  | _ => none
def bTst (f : Cb D) : Cb Bool := fun ρ μ => ob (f ρ μ) fun d μ1 => match d with
  | .bl b => some (.ok b μ1)
  | _ => none
def bChain (o1 o2 : Sto → D → D → Option D) (fa fb fc : Cb D) : Cb D := fun ρ μ => ob (fa ρ μ) fun x μ1 => ob (fb ρ μ1) fun y μ2 => match o1 μ2 x y with
  | some (.bl true) => ob (fc ρ μ2) fun z μ3 => rt (o2 μ3 y z) μ3
  | some (.bl false) => some (.ok (.bl false) μ2)
  | _ => none
def bAndT (fa fb : Cb Bool) : Cb Bool := fun ρ μ => ob (fa ρ μ) fun b μ1 => if b then fb ρ μ1 else some (.ok false μ1)
def bOrT (fa fb : Cb Bool) : Cb Bool := fun ρ μ => ob (fa ρ μ) fun b μ1 => if b then some (.ok true μ1) else fb ρ μ1
def bNotT (fa : Cb Bool) : Cb Bool := fun ρ μ => ob (fa ρ μ) fun b μ1 => some (.ok (!b) μ1)
def bAnd (fa fb : Cb D) : Cb D := fun ρ μ => ob (fa ρ μ) fun x μ1 => match x with
  | .bl true => fb ρ μ1
  | .bl false => some (.ok (.bl false) μ1)
  | _ => none
def bOr (fa fb : Cb D) : Cb D := fun ρ μ => ob (fa ρ μ) fun x μ1 => match x with
  | .bl true => some (.ok (.bl true) μ1)
  | .bl false => fb ρ μ1
  | _ => none
def bNot (fa : Cb D) : Cb D := fun ρ μ => ob (fa ρ μ) fun x μ1 => match x with
  | .bl b => some (.ok (.bl (!b)) μ1)
  | _ => none
def bIf (fc : Cb Bool) (fa fb : Cb D) : Cb D := fun ρ μ => ob (fc ρ μ) fun b μ1 => if b then fa ρ μ1 else fb ρ μ1
def bNil : Cb (List D) := fun _ μ => some (.ok [] μ)
def bCons (fa : Cb D) (fr : Cb (List D)) : Cb (List D) := fun ρ μ => ob (fa ρ μ) fun x μ1 => ob (fr ρ μ1) fun xs μ2 => some (.ok (x :: xs) μ2)
def bTup (f : Cb (List D)) : Cb D := fun ρ μ => ob (f ρ μ) fun xs μ1 => if xs.length ≤ 16777216 then some (.ok (.tup xs) μ1) else none
def bLst (f : Cb (List D)) : Cb D := fun ρ μ => ob (f ρ μ) fun xs μ1 => if xs.length ≤ 16777216 then some (.ok (.lst xs) μ1) else none
def bLstM (f : Cb (List D)) : Cb D := fun ρ μ => ob (f ρ μ) fun xs μ1 => if xs.length ≤ 16777216 ∧ lamfs xs = true then some (.ok (.ref μ1.length) (μ1 ++ [.lst xs])) else none
def dIx (μ : Sto) (x y : D) : Option D := match x, y with
  | .str z, .int i => if z.length ≤ 16777216 then (match atI z.cps.toList i with
    | some c => some (.str ⟨#[c]⟩)
    | none => none) else none
  | x, .int i => match sqD μ x with
    | some xs => atI xs i
    | none => none
  | _, _ => none
/-- truth of a value -/
def trD (μ : Sto) : D → Option Bool
  | .non => some false
  | .bl b => some b
  | .int i => some (i != 0)
  | .tup xs => some (!xs.isEmpty)
  | .str x => if x.length ≤ 16777216 then some ((x.length : Int) != 0) else none
  | d => match vw μ d with
    | some xs => some (!xs.isEmpty)
    | none => none
def bTru (f : Cb D) : Cb Bool := fun ρ μ => ob (f ρ μ) fun d μ1 => rt (trD μ1 d) μ1

section
variable {g : Gb} {k : Nat} {Λ : Lr} {X : Cx} {W : WX}
section
variable {ι : List Addr} {H : Hp} {σ : St} {ρ : En} {μ : Sto} {r : Out D} {ra : Out (List D)} {rb : Out Bool}
theorem Post.ext {ι' H'} {Q : VK} (p : Post g Λ W ι H σ r Q) (e : Ext ι H ι' H') : Post g Λ W ι' H' σ r Q := by
  cases r with
  | ok d' μ' => exact fun ι2 H2 v2 e2 => p ι2 H2 v2 (e.trans e2)
  | exc c μ' => exact fun ι2 H2 e2 => p ι2 H2 (e.trans e2)
theorem PostA.ext {ι' H'} {Q : List V → Hp → Prop} (p : PostA g Λ W ι H σ ra Q) (e : Ext ι H ι' H') : PostA g Λ W ι' H' σ ra Q := by
  cases ra with
  | ok d' μ' => exact fun ι2 H2 v2 e2 => p ι2 H2 v2 (e.trans e2)
  | exc c μ' => exact fun ι2 H2 e2 => p ι2 H2 (e.trans e2)
theorem PostT.ext {ι' H'} {Q : Bool → Hp → Prop} (p : PostT g Λ W ι H σ rb Q) (e : Ext ι H ι' H') : PostT g Λ W ι' H' σ rb Q := by
  cases rb with
  | ok d' μ' => exact fun ι2 H2 e2 => p ι2 H2 (e.trans e2)
  | exc c μ' => exact fun ι2 H2 e2 => p ι2 H2 (e.trans e2)
/-- the general step: a first part (an expression, arguments, a test), then the rest -/
theorem go_E {β : Type} {f : Cb D} {kk : D → Sto → Option (Out β)} {r : Out β} {R : VK} {X1 : Prop} (l : LR g Λ ι H σ ρ) (m : MR g Λ ι H μ) (h : ob (f ρ μ) kk = some r) (px : ∀ c μ1, r = .exc c μ1 → ∀ ι' H', Ext ι H ι' H' → MR g Λ ι' H' μ1 → W (.ref (g.cls c)) none σ H')
    (go : ∀ d μ1 ι1 H1 v, f ρ μ = some (.ok d μ1) → kk d μ1 = some r → Ext ι H ι1 H1 → MR g Λ ι1 H1 μ1 → LR g Λ ι1 H1 σ ρ → Rep g.K Λ ι1 H1 d v → R v H1) : rdE g Λ W f σ H R := by
  cases q : f ρ μ with
  | none => rw [q] at h; cases h
  | some o =>
    refine ⟨ι, ρ, μ, o, l, m, q, ?_⟩
    cases o with
    | ok d μ1 => rw [q] at h; exact fun ι1 H1 v e m1 r1 => go d μ1 ι1 H1 v q h e m1 (l.ext e) r1
    | exc c μ1 =>
      rw [q] at h
      exact px c μ1 (Option.some.inj (show some (Out.exc c μ1) = some r from h)).symm
theorem go_T {β : Type} {f : Cb Bool} {kk : Bool → Sto → Option (Out β)} {r : Out β} {R : Bool → Hp → Prop} (l : LR g Λ ι H σ ρ) (m : MR g Λ ι H μ) (h : ob (f ρ μ) kk = some r) (px : ∀ c μ1, r = .exc c μ1 → ∀ ι' H', Ext ι H ι' H' → MR g Λ ι' H' μ1 → W (.ref (g.cls c)) none σ H')
    (go : ∀ d μ1 ι1 H1, f ρ μ = some (.ok d μ1) → kk d μ1 = some r → Ext ι H ι1 H1 → MR g Λ ι1 H1 μ1 → LR g Λ ι1 H1 σ ρ → R d H1) : rdT g Λ W f σ H R := by
  cases q : f ρ μ with
  | none => rw [q] at h; cases h
  | some o =>
    refine ⟨ι, ρ, μ, o, l, m, q, ?_⟩
    cases o with
    | ok d μ1 => rw [q] at h; exact fun ι1 H1 e m1 => go d μ1 ι1 H1 q h e m1 (l.ext e)
    | exc c μ1 =>
      rw [q] at h
      exact px c μ1 (Option.some.inj (show some (Out.exc c μ1) = some r from h)).symm
theorem go_A {β : Type} {f : Cb (List D)} {kk : List D → Sto → Option (Out β)} {r : Out β} {R : List V → Hp → Prop} (l : LR g Λ ι H σ ρ) (m : MR g Λ ι H μ) (h : ob (f ρ μ) kk = some r) (px : ∀ c μ1, r = .exc c μ1 → ∀ ι' H', Ext ι H ι' H' → MR g Λ ι' H' μ1 → W (.ref (g.cls c)) none σ H')
    (go : ∀ ds μ1 ι1 H1 vs, f ρ μ = some (.ok ds μ1) → kk ds μ1 = some r → Ext ι H ι1 H1 → MR g Λ ι1 H1 μ1 → LR g Λ ι1 H1 σ ρ → Reps g.K Λ ι1 H1 ds vs → R vs H1) : rdA g Λ W f σ H R := by
  cases q : f ρ μ with
  | none => rw [q] at h; cases h
  | some o =>
    refine ⟨ι, ρ, μ, o, l, m, q, ?_⟩
    cases o with
    | ok d μ1 => rw [q] at h; exact fun ι1 H1 vs e m1 r1 => go d μ1 ι1 H1 vs q h e m1 (l.ext e) r1
    | exc c μ1 =>
      rw [q] at h
      exact px c μ1 (Option.some.inj (show some (Out.exc c μ1) = some r from h)).symm
theorem Post.px {Q : VK} (p : Post g Λ W ι H σ r Q) : ∀ c μ1, r = .exc c μ1 → ∀ ι' H', Ext ι H ι' H' → MR g Λ ι' H' μ1 → W (.ref (g.cls c)) none σ H' := fun c μ1 e => by subst e; exact p
theorem PostA.px {Q : List V → Hp → Prop} (p : PostA g Λ W ι H σ ra Q) : ∀ c μ1, ra = .exc c μ1 → ∀ ι' H', Ext ι H ι' H' → MR g Λ ι' H' μ1 → W (.ref (g.cls c)) none σ H' := fun c μ1 e => by subst e; exact p
theorem PostT.px {Q : Bool → Hp → Prop} (p : PostT g Λ W ι H σ rb Q) : ∀ c μ1, rb = .exc c μ1 → ∀ ι' H', Ext ι H ι' H' → MR g Λ ι' H' μ1 → W (.ref (g.cls c)) none σ H' := fun c μ1 e => by subst e; exact p
theorem rt_some {α : Type} {o : Option α} {r : Out α} (h : rt o μ = some r) : ∃ d, o = some d ∧ r = .ok d μ := by
  cases o with
  | none => cases h
  | some d => cases h; exact ⟨d, rfl, rfl⟩
end

theorem de_stuck {e : Expr} : DE g k Λ X W e bStuck := fun _ _ => ⟨fun _ _ _ _ _ _ ⟨_, _, _, _, _, _, e, _⟩ => by cases e⟩
theorem de_var (i : Nat) {x : Str} {pos : Pos} (hN : X.N[i]? = some x := by rfl) (hv : Vis X.env.scope x := by first | exact Or.inl rfl | exact Or.inr (Or.inl rfl) | exact Or.inr (Or.inr rfl)) (hd : (x == ("__debug__" : Str)) = false := by decide)
    (hcd : (x == ("__classdict__" : Str)) = false := by decide) : DE g k Λ X W (.Name x pos) (bVar i) := fun ok tk => PE.imp (pe_var hN hv hd hcd) fun σ H Q ⟨ι, ρ, μ, r, l, m, e, p⟩ => by
  unfold bVar at e
  split at e
  · rename_i d q
    cases e
    obtain ⟨v, h1, h2⟩ := l.at_ i d q
    exact ⟨v, h1, p ι H v (.refl _ _) m h2⟩
  · cases e
theorem rd_con {d : D} {v : V} {σ : St} {H : Hp} {Q : VK} (hr : ∀ ι H, Rep g.K Λ ι H d v) (h : rdE g Λ W (bCon d) σ H Q) : Q v H := by
  obtain ⟨ι, ρ, μ, r, l, m, e, p⟩ := h
  cases e
  exact p ι H v (.refl _ _) m (hr ι H)
theorem de_int {i : Int} {j pos} : DE g k Λ X W (.Constant (.int i) j pos) (bCon (.int i)) := fun _ _ => PE.imp pe_int fun _ _ _ h => rd_con (d := .int i) (fun _ _ => rfl) h
theorem de_bl {b : Bool} {j pos} : DE g k Λ X W (.Constant (.bool b) j pos) (bCon (.bl b)) := fun _ _ => PE.imp pe_bl fun _ _ _ h => rd_con (d := .bl b) (fun _ _ => rfl) h
theorem de_non {j pos} : DE g k Λ X W (.Constant .none j pos) (bCon .non) := fun _ _ => PE.imp pe_non fun _ _ _ h => rd_con (d := .non) (fun _ _ => rfl) h
theorem de_str {x : Str} {j pos} : DE g k Λ X W (.Constant (.str x) j pos) (bCon (.str x)) := fun _ _ => PE.imp pe_str fun _ _ _ h => rd_con (d := .str x) (fun _ _ => rfl) h
/-- a constant of the module -/
structure GC (g : Gb) (x : Str) (d : D) : Prop where
  ex : ∃ u v, g.mg x = some u ∧ RelV v u ∧ ∀ Λ ι H, Rep g.K Λ ι H d v
theorem de_glob {x : Str} {d : D} {pos : Pos} (c : GC g x d) (hg : Gl X x := by rfl) (hd : (x == ("__debug__" : Str)) = false := by decide) : DE g k Λ X W (.Name x pos) (bCon d) := fun ok _ => by
  obtain ⟨u, v, h1, h2, h3⟩ := c.ex
  exact PE.imp (pe_glob hg (by rw [ok.mg]; exact h1) h2 hd) fun _ _ _ h => rd_con (h3 Λ) h
variable {a b c : Expr} {fa fb fc : Cb D} {pos : Pos}
theorem rd_bin {o : Sto → D → D → Option D} {σ : St} {H : Hp} {Q : VK} {rr : R2} (hrr : ∀ x y H Q, (∃ ι μ a b d, MR g Λ ι H μ ∧ Rep g.K Λ ι H a x ∧ Rep g.K Λ ι H b y ∧ o μ a b = some d ∧ ∀ ι' H' v, Ext ι H ι' H' → MR g Λ ι' H' μ → Rep g.K Λ ι' H' d v → Q v H') → rr x y H Q)
    (h : rdE g Λ W (bBin o fa fb) σ H Q) : tOp rr (rdE g Λ W fa) (rdE g Λ W fb) σ H Q := by
  obtain ⟨ι, ρ, μ, r, l, m, e, p⟩ := h
  refine go_E (X1 := True) l m e p.px fun d μ1 ι1 H1 v e1 e2 x1 m1 l1 r1 => ?_
  refine go_E (X1 := True) l1 m1 e2 (p.ext x1).px fun d2 μ2 ι2 H2 v2 _ e3 x2 m2 l2 r2 => ?_
  obtain ⟨z, hz, rfl⟩ := rt_some e3
  exact hrr _ _ _ _ ⟨ι2, μ2, d, d2, z, m2, r1.ext x2, r2, hz, (p.ext x1).ext x2⟩
theorem de_bin {op : Operator} {o : Sto → D → D → Option D} (ho : DOp g k Λ (binaryOp op) o) (ha : DE g k Λ X W a fa) (hb : DE g k Λ X W b fb) : DE g k Λ X W (.BinOp a op b pos) (bBin o fa fb) := fun ok tk =>
  PE.imp (pe_op (ho X ok) (ha ok tk) (hb ok tk)) fun _ _ _ h => rd_bin (fun _ _ _ _ q => q) h
theorem de_cmp {op : CmpOp} {o : Sto → D → D → Option D} (ho : DOp g k Λ (compareOp op) o) (ha : DE g k Λ X W a fa) (hb : DE g k Λ X W b fb) (hm : behindInMarks op b = false := by with_unfolding_all rfl) : DE g k Λ X W (.Compare a [op] [b] pos) (bBin o fa fb) := fun ok tk =>
  PE.imp (pe_cmpR (ho X ok) (ha ok tk) (hb ok tk) hm) fun _ _ _ h => rd_bin (fun _ _ _ _ q => q) h
theorem rd_tst {f : Cb D} {t : TE} {σ : St} {H : Hp} {Q : Bool → Hp → Prop} (ht : ∀ σ H Q, rdE g Λ W f σ H Q → t σ H Q) (h : rdT g Λ W (bTst f) σ H Q) : tTest t σ H Q := by
  obtain ⟨ι, ρ, μ, r, l, m, e, p⟩ := h
  refine ht _ _ _ (go_E (X1 := True) l m e p.px fun d μ1 ι1 H1 v e1 e2 x1 m1 l1 r1 => ?_)
  split at e2
  · rename_i z
    cases e2
    cases r1
    exact ⟨z, rfl, p ι1 H1 x1 m1⟩
  · cases e2
theorem dt_cmp {op : CmpOp} {o : Sto → D → D → Option D} (ho : DOp g k Λ (compareOp op) o) (ha : DE g k Λ X W a fa) (hb : DE g k Λ X W b fb) (hm : behindInMarks op b = false := by with_unfolding_all rfl) : DT g k Λ X W (.Compare a [op] [b] pos) (bTst (bBin o fa fb)) := fun ok tk =>
  PT.imp (pt_cmpR (ho X ok) (ha ok tk) (hb ok tk) hm) fun _ _ _ h => rd_tst (fun _ _ _ h => rd_bin (fun _ _ _ _ q => q) h) h
def rOp (g : Gb) (Λ : Lr) (o : Sto → D → D → Option D) : R2 := fun x y H Q => ∃ ι μ a b d, MR g Λ ι H μ ∧ Rep g.K Λ ι H a x ∧ Rep g.K Λ ι H b y ∧ o μ a b = some d ∧ ∀ ι' H' v, Ext ι H ι' H' → MR g Λ ι' H' μ → Rep g.K Λ ι' H' d v → Q v H'
theorem rd_chain {o1 o2 : Sto → D → D → Option D} {σ : St} {H : Hp} {Q : VK} (h : rdE g Λ W (bChain o1 o2 fa fb fc) σ H Q) : tChain (rOp g Λ o1) (rOp g Λ o2) (rdE g Λ W fa) (rdE g Λ W fb) (rdE g Λ W fc) σ H Q := by
  obtain ⟨ι, ρ, μ, r, l, m, e, p⟩ := h
  refine go_E (X1 := True) l m e p.px fun d μ1 ι1 H1 v e1 e2 x1 m1 l1 r1 => ?_
  refine go_E (X1 := True) l1 m1 e2 (p.ext x1).px fun d2 μ2 ι2 H2 v2 _ e3 x2 m2 l2 r2 => ?_
  have p2 := (p.ext x1).ext x2
  split at e3
  · rename_i hz
    refine ⟨ι2, μ2, d, d2, .bl true, m2, r1.ext x2, r2, hz, fun ι3 H3 z x3 m3 r3 => ?_⟩
    cases r3
    refine ⟨true, rfl, ?_⟩
    refine go_E (X1 := True) (l2.ext x3) m3 e3 (p2.ext x3).px fun d4 μ4 ι4 H4 v4 _ e4 x4 m4 l4 r4 => ?_
    obtain ⟨z, hz, rfl⟩ := rt_some e4
    exact ⟨ι4, μ4, d2, d4, z, m4, (r2.ext x3).ext x4, r4, hz, (p2.ext x3).ext x4⟩
  · rename_i hz
    refine ⟨ι2, μ2, d, d2, .bl false, m2, r1.ext x2, r2, hz, fun ι3 H3 z x3 m3 r3 => ?_⟩
    cases r3
    cases e3
    exact ⟨false, rfl, p2 ι3 H3 (.bl false) x3 m3 rfl⟩
  · cases e3
theorem de_chain {op op' : CmpOp} {o1 o2 : Sto → D → D → Option D} (h1 : DOp g k Λ (compareOp op) o1) (h2 : DOp g k Λ (compareOp op') o2) (ha : DE g k Λ X W a fa) (hb : DE g k Λ X W b fb) (hc : DE g k Λ X W c fc) (hm : lastMarks [op, op'] [b, c] = false := by with_unfolding_all rfl) :
    DE g k Λ X W (.Compare a [op, op'] [b, c] pos) (bChain o1 o2 fa fb fc) := fun ok tk => PE.imp (pe_chain (h1 X ok) (h2 X ok) (ha ok tk) (hb ok tk) (hc ok tk) hm) fun _ _ _ h => rd_chain h
theorem dt_chain {op op' : CmpOp} {o1 o2 : Sto → D → D → Option D} (h1 : DOp g k Λ (compareOp op) o1) (h2 : DOp g k Λ (compareOp op') o2) (ha : DE g k Λ X W a fa) (hb : DE g k Λ X W b fb) (hc : DE g k Λ X W c fc) (hm : lastMarks [op, op'] [b, c] = false := by with_unfolding_all rfl) :
    DT g k Λ X W (.Compare a [op, op'] [b, c] pos) (bTst (bChain o1 o2 fa fb fc)) := fun ok tk => PT.imp (pt_chain (h1 X ok) (h2 X ok) (ha ok tk) (hb ok tk) (hc ok tk) hm) fun _ _ _ h => rd_tst (fun _ _ _ h => rd_chain h) h
/-! tests -/
def DW (g : Gb) (k : Nat) (Λ : Lr) (X : Cx) (W : WX) (e : Expr) (f : Cb Bool) : Prop := XOk g k X → Takes X W → PW X e (rdT g Λ W f)
theorem PW.imp {X : Cx} {e : Expr} {t u : TT} (h : PW X e t) (i : ∀ σ H Q, u σ H Q → t σ H Q) : PW X e u := ⟨fun whole pins s σ H Q I q => h.run whole pins s σ H Q I (i σ H Q q)⟩
variable {ta tb : Cb Bool} {rest : List Expr}
theorem dt_w {e : Expr} (h : DW g k Λ X W e ta) : DT g k Λ X W e ta := fun ok tk => (h ok tk).pt
theorem dw_and1 (ha : DT g k Λ X W a ta) : DW g k Λ X W (.BoolOp .And [a] pos) ta := fun ok tk => pw_and1 (ha ok tk)
theorem dw_or1 (ha : DT g k Λ X W a ta) : DW g k Λ X W (.BoolOp .Or [a] pos) ta := fun ok tk => pw_or1 (ha ok tk)
theorem dw_and (ha : DT g k Λ X W a ta) (hb : DW g k Λ X W (.BoolOp .And (b :: rest) pos) tb) : DW g k Λ X W (.BoolOp .And (a :: b :: rest) pos) (bAndT ta tb) := fun ok tk =>
  PW.imp (pw_and (ha ok tk) (hb ok tk)) fun σ H Q ⟨ι, ρ, μ, r, l, m, e, p⟩ => go_T l m e p.px fun d μ1 ι1 H1 e1 e2 x1 m1 l1 => by
    cases d with
    | true => exact ⟨ι1, ρ, μ1, r, l1, m1, e2, p.ext x1⟩
    | false => cases e2; exact p ι1 H1 x1 m1
theorem dw_or (ha : DT g k Λ X W a ta) (hb : DW g k Λ X W (.BoolOp .Or (b :: rest) pos) tb) : DW g k Λ X W (.BoolOp .Or (a :: b :: rest) pos) (bOrT ta tb) := fun ok tk =>
  PW.imp (pw_or (ha ok tk) (hb ok tk)) fun σ H Q ⟨ι, ρ, μ, r, l, m, e, p⟩ => go_T l m e p.px fun d μ1 ι1 H1 e1 e2 x1 m1 l1 => by
    cases d with
    | false => exact ⟨ι1, ρ, μ1, r, l1, m1, e2, p.ext x1⟩
    | true => cases e2; exact p ι1 H1 x1 m1
theorem dt_not (ha : DT g k Λ X W a ta) : DT g k Λ X W (.UnaryOp .Not a pos) (bNotT ta) := fun ok tk => PT.imp (pt_not (ha ok tk)) fun σ H Q ⟨ι, ρ, μ, r, l, m, e, p⟩ => go_T l m e p.px fun d μ1 ι1 H1 e1 e2 x1 m1 l1 => by
  cases e2; exact p ι1 H1 x1 m1
theorem tr_rd {ι : List Addr} {H : Hp} {μ : Sto} (m : MR g Λ ι H μ) {d : D} {v : V} {t : Bool} (r : Rep g.K Λ ι H d v) (e : trD μ d = some t) : TruV g.K v H t := by
  unfold trD at e
  split at e
  · cases e; cases r; rfl
  · cases e; cases r; rfl
  · cases e; cases r; rfl
  · cases e
    obtain ⟨a, vs, rfl, h2, h3⟩ := r
    refine .inr (.inl ⟨vs, h2.sq, ?_⟩)
    have := h3.len
    cases vs <;> simp at this <;> simp [this]
    rename_i xs _ _
    cases xs <;> simp at this ⊢
  · split at e
    · cases e; cases r; exact ⟨szl_le ‹_›, rfl⟩
    · cases e
  · split at e
    · rename_i xs h
      cases e
      obtain ⟨a, vs, rfl, h2, h3⟩ := vw_rd m r h
      refine .inl ⟨vs, .inl h2, ?_⟩
      have := h3.len
      cases vs <;> simp at this <;> simp [this]
      cases xs <;> simp at this ⊢
    · cases e
theorem dt_tru {f : Cb D} (ha : DE g k Λ X W a f) (he : ∀ whole, isTrue a X.env whole = (do let v ← whole; standAt a.pos; holding [v] (truthy v)) := by intro _; rfl) : DT g k Λ X W a (bTru f) := fun ok tk =>
  PT.imp (pt_truth (ha ok tk) he) fun σ H Q ⟨ι, ρ, μ, r, l, m, e, p⟩ => go_E (X1 := True) l m e p.px fun d μ1 ι1 H1 v e1 e2 x1 m1 l1 r1 => by
    obtain ⟨z, hz, rfl⟩ := rt_some e2
    exact ⟨z, by rw [ok.K]; exact tr_rd m1 r1 hz, p ι1 H1 x1 m1⟩
/-! values -/
theorem de_one {op : BoolOp} (h : DE g k Λ X W a fa) : DE g k Λ X W (.BoolOp op [a] pos) fa := fun ok tk => pe_one (h ok tk)
theorem de_and (ha : DE g k Λ X W a fa) (hb : DE g k Λ X W (.BoolOp .And (b :: rest) pos) fb) : DE g k Λ X W (.BoolOp .And (a :: b :: rest) pos) (bAnd fa fb) := fun ok tk =>
  PE.imp (pe_and (ha ok tk) (hb ok tk)) fun σ H Q ⟨ι, ρ, μ, r, l, m, e, p⟩ => go_E (X1 := True) l m e p.px fun d μ1 ι1 H1 v e1 e2 x1 m1 l1 r1 => by
    split at e2
    · cases r1; exact ⟨true, rfl, ⟨ι1, ρ, μ1, r, l1, m1, e2, p.ext x1⟩⟩
    · cases r1; cases e2; exact ⟨false, rfl, p ι1 H1 (.bl false) x1 m1 rfl⟩
    · cases e2
theorem de_or (ha : DE g k Λ X W a fa) (hb : DE g k Λ X W (.BoolOp .Or (b :: rest) pos) fb) : DE g k Λ X W (.BoolOp .Or (a :: b :: rest) pos) (bOr fa fb) := fun ok tk =>
  PE.imp (pe_or (ha ok tk) (hb ok tk)) fun σ H Q ⟨ι, ρ, μ, r, l, m, e, p⟩ => go_E (X1 := True) l m e p.px fun d μ1 ι1 H1 v e1 e2 x1 m1 l1 r1 => by
    split at e2
    · cases r1; cases e2; exact ⟨true, rfl, p ι1 H1 (.bl true) x1 m1 rfl⟩
    · cases r1; exact ⟨false, rfl, ⟨ι1, ρ, μ1, r, l1, m1, e2, p.ext x1⟩⟩
    · cases e2
theorem de_not (ha : DE g k Λ X W a fa) : DE g k Λ X W (.UnaryOp .Not a pos) (bNot fa) := fun ok tk =>
  PE.imp (pe_not (ha ok tk)) fun σ H Q ⟨ι, ρ, μ, r, l, m, e, p⟩ => go_E (X1 := True) l m e p.px fun d μ1 ι1 H1 v e1 e2 x1 m1 l1 r1 => by
    split at e2
    · rename_i z
      cases r1; cases e2; exact ⟨z, rfl, p ι1 H1 _ x1 m1 rfl⟩
    · cases e2
theorem de_neg (ha : DE g k Λ X W a fa) : DE g k Λ X W (.UnaryOp .USub a pos) (bNeg fa) := fun ok tk =>
  PE.imp (pe_un un_neg (ha ok tk)) fun σ H Q ⟨ι, ρ, μ, r, l, m, e, p⟩ => go_E (X1 := True) l m e p.px fun d μ1 ι1 H1 v e1 e2 x1 m1 l1 r1 => by
    split at e2
    · rename_i z
      cases r1; cases e2; exact ⟨z, rfl, p ι1 H1 _ x1 m1 rfl⟩
    · cases e2
theorem de_if (hc : DT g k Λ X W c ta) (ha : DE g k Λ X W a fa) (hb : DE g k Λ X W b fb) : DE g k Λ X W (.IfExp c a b pos) (bIf ta fa fb) := fun ok tk =>
  PE.imp (pe_ifExp (hc ok tk) (ha ok tk) (hb ok tk)) fun σ H Q ⟨ι, ρ, μ, r, l, m, e, p⟩ => go_T l m e p.px fun d μ1 ι1 H1 e1 e2 x1 m1 l1 => by
    cases d with
    | true => exact ⟨ι1, ρ, μ1, r, l1, m1, e2, p.ext x1⟩
    | false => exact ⟨ι1, ρ, μ1, r, l1, m1, e2, p.ext x1⟩
/-! arguments, displays -/
variable {es : List Expr} {fs : Cb (List D)}
theorem da_nil : DA g k Λ X W [] bNil := fun ok tk => PA.imp pa_nil fun σ H Q ⟨ι, ρ, μ, r, l, m, e, p⟩ => by cases e; exact p ι H [] (.refl _ _) m rfl
theorem da_cons (ha : DE g k Λ X W a fa) (hr : DA g k Λ X W es fs) (hs : starEach (a :: es) X.env = (false, eval a X.env) :: starEach es X.env := by rfl) : DA g k Λ X W (a :: es) (bCons fa fs) := fun ok tk =>
  PA.imp (pa_cons (ha ok tk) (hr ok tk) hs) fun σ H Q ⟨ι, ρ, μ, r, l, m, e, p⟩ => go_E (X1 := True) l m e p.px fun d μ1 ι1 H1 v e1 e2 x1 m1 l1 r1 =>
    go_A l1 m1 e2 (p.ext x1).px fun ds μ2 ι2 H2 vs _ e3 x2 m2 l2 r2 => by
      cases e3
      exact p ι2 H2 (v :: vs) (x1.trans x2) m2 ⟨v, vs, rfl, r1.ext x2, r2⟩
theorem de_tup {kk : Nat} (h : DA g k Λ X W es fs) : DE g k Λ X W (.Tuple es kk pos) (bTup fs) := fun ok tk =>
  PE.imp (pe_tup (h ok tk)) fun σ H Q ⟨ι, ρ, μ, r, l, m, e, p⟩ => go_A l m e p.px fun ds μ2 ι2 H2 vs _ e3 x2 m2 l2 r2 => by
    split at e3
    · rename_i hz
      cases e3
      refine ⟨szl_le (by rw [← r2.len]; exact hz), fun q hq => ?_⟩
      obtain ⟨y1, y2, y3⟩ := new_tup m2 hq r2
      exact p _ _ _ (x2.trans y1) y2 y3
    · cases e3
theorem de_lst (h : DA g k Λ X W es fs) : DE g k Λ X W (.List es pos) (bLst fs) := fun ok tk =>
  PE.imp (pe_lst (h ok tk)) fun σ H Q ⟨ι, ρ, μ, r, l, m, e, p⟩ => go_A l m e p.px fun ds μ2 ι2 H2 vs _ e3 x2 m2 l2 r2 => by
    split at e3
    · rename_i hz
      cases e3
      refine ⟨szl_le (by rw [← r2.len]; exact hz), fun q hq => ?_⟩
      obtain ⟨y1, y2, y3⟩ := new_lst m2 hq r2
      exact p _ _ _ (x2.trans y1) y2 y3
    · cases e3
theorem de_lstM (h : DA g k Λ X W es fs) : DE g k Λ X W (.List es pos) (bLstM fs) := fun ok tk =>
  PE.imp (pe_lst (h ok tk)) fun σ H Q ⟨ι, ρ, μ, r, l, m, e, p⟩ => go_A l m e p.px fun ds μ2 ι2 H2 vs _ e3 x2 m2 l2 r2 => by
    split at e3
    · rename_i hz
      cases e3
      refine ⟨szl_le (by rw [← r2.len]; exact hz.1), fun q hq => ?_⟩
      obtain ⟨y1, y2, y3⟩ := new_mut m2 hq hz.2 r2
      exact p _ _ _ (x2.trans y1) y2 y3
    · cases e3
theorem atI_rep {ι : List Addr} {H : Hp} {ds : List D} {vs : List V} {i : Int} {d : D} (r : Reps g.K Λ ι H ds vs) (e : atI ds i = some d) : ∃ v, atI vs i = some v ∧ Rep g.K Λ ι H d v := by
  unfold atI at e ⊢
  rw [← r.len]
  cases q : ixN ds.length i with
  | none => rw [q] at e; cases e
  | some j =>
    rw [q] at e
    exact r.get e
theorem de_ix (ha : DE g k Λ X W a fa) (hb : DE g k Λ X W b fb) (hs : PlainIx b := by intro _ _; rfl) : DE g k Λ X W (.Subscript a b pos) (bBin dIx fa fb) := fun ok tk =>
  PE.imp (pe_ix ix_seq (ha ok tk) (hb ok tk) hs) fun _ _ _ h => rd_bin (fun x y H Q ⟨ι, μ, a, b, d, m, ra, rb, e, q⟩ => by
    unfold dIx at e
    split at e
    · rename_i z i
      split at e
      · rename_i hz
        split at e
        · rename_i c hc
          cases e; cases ra; cases rb
          exact .inr (.inr ⟨z, i, c, rfl, rfl, szl_le hz, hc, q ι H _ (.refl _ _) m rfl⟩)
        · cases e
      · cases e
    · rename_i i _
      split at e
      · rename_i xs hx
        cases rb
        obtain ⟨p, vs, h1, h2, h3⟩ := sq_rd m ra hx
        obtain ⟨v, h4, h5⟩ := atI_rep h3 e
        rcases h2 with h2 | h2
        · exact .inl ⟨p, vs, i, v, h1, rfl, by rw [ok.K]; exact h2, h4, q ι H _ (.refl _ _) m h5⟩
        · exact .inr (.inl ⟨p, vs, i, v, h1, rfl, by rw [ok.K]; exact h2, h4, q ι H _ (.refl _ _) m h5⟩)
      · cases e
    · cases e) h
end
end Mi

set_option Elab.async false
set_option linter.all false
set_option maxRecDepth 100000
set_option maxHeartbeats 4000000
namespace Mi
open PySem L2

/-! ### functions -/
abbrev FnS := List D → Sto → Option (Out D)
def bCallP (F : FnS) (fs : Cb (List D)) : Cb D := fun ρ μ => ob (fs ρ μ) fun ds μ1 => if purs ds = true then (match F ds [] with
  | some (.ok d _) => if pur d = true then some (.ok d μ1) else none
  | some (.exc c _) => some (.exc c μ1)
  | none => none) else none
def bCallM (F : FnS) (fs : Cb (List D)) : Cb D := fun ρ μ => ob (fs ρ μ) fun ds μ1 => if lamfs ds = true then F ds μ1 else none
def bCall0 (F : FnS) : Cb D := fun _ μ => match F [] [] with
  | some (.ok d _) => if pur d = true then some (.ok d μ) else none
  | _ => none
/-- the promise of a def whose meaning is F -/
def spM (g : Gb) (n : Nat) (F : FnS) : Sp := fun vs H Q E => vs.length = n ∧ ∃ (Λ : Lr) (ι : List Addr) (ds : List D) (μ : Sto) (r : Out D), MR g Λ ι H μ ∧ Reps g.K Λ.pure ι H ds vs ∧ F ds μ = some r ∧
  match r with
  | .ok d μ' => ∀ ι' H' v, Ext ι H ι' H' → MR g Λ ι' H' μ' → Rep g.K Λ.pure ι' H' d v → Q v H'
  | .exc c μ' => ∀ ι' H', Ext ι H ι' H' → MR g Λ ι' H' μ' → E (.ref (g.cls c)) none H'
structure Fn (g : Gb) (k : Nat) (x : Str) (n : Nat) (F : FnS) : Prop where
  ex : ∃ (f : Addr) (fd : FuncData) (ps : List Str), g.mg x = some (.ref f) ∧ PySem.W.keepIn g.K (.ref f) = true ∧ Binds g.K fd ps [] ∧ FnOk g.P g.w g.K g.mg g.base (L2.CX g.P g.w) k f fd ps (spM g n F)
mutual
theorem pur_lamf : ∀ {d : D}, pur d = true → lamf d = true
  | .non, _ => rfl
  | .bl _, _ => rfl
  | .int _, _ => rfl
  | .str _, _ => rfl
  | .tup _, h => purs_lamfs (show purs _ = true from h)
  | .lst _, h => purs_lamfs (show purs _ = true from h)
  | .dct _ _, h => purs_lamfs (show purs _ = true from h)
  | .ref _, _ => rfl
  | .lam _, h => by simp [pur] at h
  | .scr _, _ => rfl
theorem purs_lamfs : ∀ {ds : List D}, purs ds = true → lamfs ds = true
  | [], _ => rfl
  | d :: ds, h => by
    simp only [purs, Bool.and_eq_true] at h
    simp only [lamfs, Bool.and_eq_true]
    exact ⟨pur_lamf h.1, purs_lamfs h.2⟩
end
section
variable {g : Gb} {k j : Nat} {Λ : Lr} {X : Cx} {W : WX} {ι : List Addr} {H : Hp} {μ : Sto}
/-- another frame of the same store -/
theorem MR.fr {Λ' : Lr} (m : MR g Λ ι H μ) (h : Λ'.av = Λ.av) : MR g Λ' ι H μ := by
  have e : Λ'.pure = Λ.pure := by
    unfold Lr.pure
    rw [h]
  refine ⟨m.len, m.nd, fun n so q => ?_, m.tabs, by rw [h]; exact m.avs⟩
  obtain ⟨a, h1, h2⟩ := m.ob n so q
  refine ⟨a, h1, ?_⟩
  cases so with
  | lst xs => obtain ⟨vs, h3, h4⟩ := h2; exact ⟨vs, h3, by rw [e]; exact h4⟩
  | dct ks xs => obtain ⟨vs, h3, h5, h4⟩ := h2; exact ⟨vs, h3, h5, by rw [e]; exact h4⟩
  | ins c fs xs => obtain ⟨dx, vs, h3, h4, h5, h6, h7⟩ := h2; exact ⟨dx, vs, h3, by rw [h]; exact h4, h5, h6, by rw [e]; exact h7⟩
/-- a frame with a store of its own: the caller's objects are to be left alone -/
abbrev Lr.below (Λ : Lr) (ι : List Addr) : Lr := ⟨fun _ _ _ _ _ => False, Λ.av ++ ι⟩
theorem MR.below (m : MR g Λ ι H μ) : MR g (Λ.below ι) [] H [] := ⟨rfl, .nil, fun n so q => by simp at q, m.tabs, fun a ha => by
  rcases List.mem_append.mp ha with z | z
  · exact m.avs a z
  · rcases m.mem z with ⟨_, e⟩ | ⟨_, e⟩ | ⟨_, _, _, e⟩ <;> exact fun n => n.no e (by intro ps z; cases z)⟩
theorem Ext.below {ι' : List Addr} {H' : Hp} (e : Ext [] H ι' H') : Ext ι H ι H' := ⟨⟨[], by simp, by simp⟩, fun a o h1 h2 _ => e.keep a o h1 h2 (by simp), e.nt⟩
theorem ObjR.ext' {ι' : List Addr} {H' : Hp} (e : Ext ι H ι' H') {so : SO} {a : Addr} (hk : ∀ o, H a = some o → (∀ ps, o ≠ .tbl ps) → H' a = some o) (h : ObjR g Λ ι H so a) : ObjR g Λ ι' H' so a := by
  cases so with
  | lst xs => obtain ⟨vs, h3, h4⟩ := h; exact ⟨vs, hk _ h3 (by intro ps z; cases z), Reps.ext e xs h4⟩
  | dct ks xs => obtain ⟨vs, h3, h5, h4⟩ := h; exact ⟨vs, hk _ h3 (by intro ps z; cases z), h5, Reps.ext e xs h4⟩
  | ins c fs xs => obtain ⟨dx, vs, h3, h4, h5, h6, h7⟩ := h; exact ⟨dx, vs, hk _ h3 (by intro ps z; cases z), ⟨e.notin h5 (by intro ps z; cases z) h4.1, h4.2⟩, e.keep _ _ h5 (by intro ps z; cases z) h4.1, h6, Reps.ext e xs h7⟩
theorem MR.above {ι' : List Addr} {H' : Hp} {Λ' : Lr} {μ' : Sto} (m : MR g Λ ι H μ) (e : Ext [] H ι' H') (m' : MR g Λ' ι' H' μ') : MR g Λ ι H' μ := ⟨m.len, m.nd, fun n so q => by
  obtain ⟨a, h1, h2⟩ := m.ob n so q
  exact ⟨a, h1, h2.ext' e.below fun o h3 h4 => e.keep a o h3 h4 (by simp)⟩, m'.tabs, fun a ha h => m.avs a ha (e.nt a h)⟩
theorem Fn.run (F : Fn g j x n Fs) (hk : j ≤ k) (ok : XOk g k X) : ∃ (f : Addr) (fd : FuncData) (ps : List Str), X.mg x = some (.ref f) ∧ PySem.W.keepIn X.K (.ref f) = true ∧ Binds X.K fd ps [] ∧ FnOk X.prog X.w X.K X.mg X.base (L2.CX X.prog X.w) j f fd ps (spM g n Fs) := by
  obtain ⟨f, fd, ps, h1, h2, h3, h4⟩ := F.ex
  exact ⟨f, fd, ps, by rw [ok.mg]; exact h1, by rw [ok.K]; exact h2, by rw [ok.K]; exact h3, by rw [ok.P, ok.w, ok.K, ok.mg, ok.base]; exact h4⟩
variable {a : Expr} {es : List Expr} {fs : Cb (List D)} {p pos : Pos} {x : Str} {n : Nat} {Fs : FnS}
/-- the callee's promise from a pure meaning -/
theorem sp_pure {ds : List D} {vs : List V} {Q : VK} {E : XK} {r : Out D} (m : MR g Λ ι H μ) (r1 : Reps g.K Λ ι H ds vs) (hn : vs.length = n) (hp : purs ds = true) (hF : Fs ds [] = some r)
    (hq : match r with
      | .ok d _ => pur d = true ∧ ∀ H' v, Ext ι H ι H' → MR g Λ ι H' μ → Rep g.K Λ ι H' d v → Q v H'
      | .exc c _ => ∀ H', Ext ι H ι H' → MR g Λ ι H' μ → E (.ref (g.cls c)) none H') : spM g n Fs vs H Q E := by
  refine ⟨hn, Λ.below ι, [], ds, [], r, m.below, ?_, hF, ?_⟩
  · refine Reps.pur (Λ := Λ) (ι := ι) (fun a h1 h2 => ⟨by simp, fun z => ?_⟩) ds hp r1
    rcases List.mem_append.mp z with z | z
    · exact h2 z
    · exact h1 z
  · cases r with
    | ok d μ' =>
      intro ι' H' v e m' rv
      exact hq.2 H' v e.below (m.above e m') (Rep.pur (fun a h1 h2 => ⟨fun z => h2 (List.mem_append_right _ z), fun z => h2 (List.mem_append_left _ z)⟩) d hq.1 rv)
    | exc c μ' =>
      intro ι' H' e m'
      exact hq H' e.below (m.above e m')
theorem da_len {f : Cb (List D)} : True := trivial
theorem de_callP (F : Fn g j x n Fs) (hk : j ≤ k) (hn : (a :: es).length = n := by rfl) (ha : DA g k Λ X W (a :: es) fs) (hg : Gl X x := by rfl) (hdb : (x == ("__debug__" : Str)) = false := by decide) (he : starEach (a :: es) X.env = (false, eval a X.env) :: starEach es X.env := by rfl)
    (hpl : (backTo pos (starEach es X.env)).any (·.1) = false := by rfl) (hlen : ∀ ρ μ ds μ1, fs ρ μ = some (.ok ds μ1) → ds.length = n) : DE g k Λ X W (.Call (.Name x p) (a :: es) [] pos) (bCallP Fs fs) := fun ok tk => by
  obtain ⟨f, fd, ps, h1, h2, h3, h4⟩ := F.run hk ok
  refine PE.imp (pe_callSD (E := WE W) h4 (ok.room.mono hk) hg h1 h2 h3 .nil (fun σ => passAt tk σ) (ha ok tk) hdb he hpl) fun σ H Q ⟨ι, ρ, μ, r, l, m, e, p⟩ => go_A l m e p.px fun ds μ2 ι2 H2 vs e1 e3 x2 m2 l2 r2 => ?_
  have p2 := p.ext x2
  have hv : (vs ++ []).length = n := by rw [List.append_nil, ← r2.len]; exact hlen _ _ _ _ e1
  rw [List.append_nil] at hv ⊢
  split at e3
  · rename_i hp
    split at e3
    · rename_i d μ' hF
      split at e3
      · rename_i hd
        cases e3
        exact sp_pure m2 r2 hv hp hF ⟨hd, fun H' v e m' rv => p2 ι2 H' v e m' rv⟩
      · cases e3
    · rename_i c μ' hF
      cases e3
      exact sp_pure m2 r2 hv hp hF fun H' e m' => p2 ι2 H' e m'
    · cases e3
  · cases e3
theorem de_callM (F : Fn g j x n Fs) (hk : j ≤ k) (hn : (a :: es).length = n := by rfl) (ha : DA g k Λ X W (a :: es) fs) (hg : Gl X x := by rfl) (hdb : (x == ("__debug__" : Str)) = false := by decide) (he : starEach (a :: es) X.env = (false, eval a X.env) :: starEach es X.env := by rfl)
    (hpl : (backTo pos (starEach es X.env)).any (·.1) = false := by rfl) (hlen : ∀ ρ μ ds μ1, fs ρ μ = some (.ok ds μ1) → ds.length = n) : DE g k Λ X W (.Call (.Name x p) (a :: es) [] pos) (bCallM Fs fs) := fun ok tk => by
  obtain ⟨f, fd, ps, h1, h2, h3, h4⟩ := F.run hk ok
  refine PE.imp (pe_callSD (E := WE W) h4 (ok.room.mono hk) hg h1 h2 h3 .nil (fun σ => passAt tk σ) (ha ok tk) hdb he hpl) fun σ H Q ⟨ι, ρ, μ, r, l, m, e, p⟩ => go_A l m e p.px fun ds μ2 ι2 H2 vs e1 e3 x2 m2 l2 r2 => ?_
  have p2 := p.ext x2
  have hv : (vs ++ []).length = n := by rw [List.append_nil, ← r2.len]; exact hlen _ _ _ _ e1
  rw [List.append_nil] at hv ⊢
  split at e3
  · rename_i hp
    refine ⟨hv, Λ, ι2, ds, μ2, r, m2, Reps.lam (Λ := Λ) (Λ' := Λ.pure) rfl ds hp r2, e3, ?_⟩
    cases r with
    | ok d μ' => exact fun ι' H' v e m' rv => p2 ι' H' v e m' (Rep.of_pure d rv)
    | exc c μ' => exact fun ι' H' e m' => p2 ι' H' e m'
  · cases e3
theorem de_call0 (F : Fn g j x 0 Fs) (hk : j ≤ k) (hg : Gl X x := by rfl) (hdb : (x == ("__debug__" : Str)) = false := by decide) : DE g k Λ X W (.Call (.Name x p) [] [] pos) (bCall0 Fs) := fun ok tk => by
  obtain ⟨f, fd, ps, h1, h2, h3, h4⟩ := F.run hk ok
  refine PE.imp (pe_call0 h4 (ok.room.mono hk) hg h1 h2 h3 .nil (E := fun _ _ _ => False) (passes_call tk fun _ _ _ _ z => z.elim) hdb) fun σ H Q ⟨ι, ρ, μ, r, l, m, e, p⟩ => ?_
  unfold bCall0 at e
  split at e
  · rename_i d μ' hF
    split at e
    · rename_i hd
      cases e
      show spM g 0 Fs ([] ++ []) H Q (fun _ _ _ => False)
      exact sp_pure (ds := []) (E := fun _ _ _ => False) m rfl rfl rfl hF ⟨hd, fun H' v e m' rv => p ι H' v e m' rv⟩
    · cases e
  · cases e
theorem bNil_len : ∀ (ρ : En) (μ : Sto) (ds : List D) (μ1 : Sto), bNil ρ μ = some (.ok ds μ1) → ds.length = 0 := fun _ _ _ _ h => by cases h; rfl
theorem bCons_len {fa : Cb D} {fr : Cb (List D)} {n : Nat} (h : ∀ (ρ : En) (μ : Sto) (ds : List D) (μ1 : Sto), fr ρ μ = some (.ok ds μ1) → ds.length = n) : ∀ (ρ : En) (μ : Sto) (ds : List D) (μ1 : Sto), bCons fa fr ρ μ = some (.ok ds μ1) → ds.length = n + 1 := fun ρ μ ds μ1 e => by
  unfold bCons at e
  cases q : fa ρ μ with
  | none => rw [q] at e; cases e
  | some o =>
    rw [q] at e
    cases o with
    | exc c m => cases e
    | ok d m =>
      have e : ob (fr ρ m) (fun xs μ2 => some (.ok (d :: xs) μ2)) = some (.ok ds μ1) := e
      cases q2 : fr ρ m with
      | none => rw [q2] at e; cases e
      | some o2 =>
        rw [q2] at e
        cases o2 with
        | exc c m => cases e
        | ok d2 m2 => cases e; rw [List.length_cons, h _ _ _ _ q2]
end

/-! ### built-ins -/
def bFn (o : Sto → List D → Option D) (fs : Cb (List D)) : Cb D := fun ρ μ => ob (fs ρ μ) fun ds μ1 => rt (o μ1 ds) μ1
def DCall (g : Gb) (k : Nat) (Λ : Lr) (f : Value) (o : Sto → List D → Option D) : Prop := ∀ X, XOk g k X → CallR X f (fun xs H Q => ∃ ι μ ds d, MR g Λ ι H μ ∧ Reps g.K Λ ι H ds xs ∧ o μ ds = some d ∧ ∀ ι' H' v, Ext ι H ι' H' → MR g Λ ι' H' μ → Rep g.K Λ ι' H' d v → Q v H')
def intsD : List D → Option (List Int)
  | [] => some []
  | .int i :: r => match intsD r with
    | some is => some (i :: is)
    | none => none
  | _ => none
def txtsD : List D → Option (List Str)
  | [] => some []
  | .str i :: r => match txtsD r with
    | some is => some (i :: is)
    | none => none
  | _ => none
theorem ints_eq : ∀ {ds : List D} {is : List Int}, intsD ds = some is → ds = is.map .int
  | [], _, h => by cases h; rfl
  | d :: r, is, h => by
    cases d <;> first | (simp only [intsD] at h; split at h <;> first | (cases h; rename_i q; rw [List.map_cons, ← ints_eq q]; done) | (cases h; done)) | (simp [intsD] at h; done)
theorem txts_eq : ∀ {ds : List D} {is : List Str}, txtsD ds = some is → ds = is.map .str
  | [], _, h => by cases h; rfl
  | d :: r, is, h => by
    cases d <;> first | (simp only [txtsD] at h; split at h <;> first | (cases h; rename_i q; rw [List.map_cons, ← txts_eq q]; done) | (cases h; done)) | (simp [txtsD] at h; done)
theorem Reps.txts {K Λ ι H} : ∀ {ns : List Str} {vs : List V}, Reps K Λ ι H (ns.map .str) vs → vs = ns.map V.str
  | [], _, h => h
  | n :: ns, _, ⟨v, r, h1, h2, h3⟩ => by subst h1; cases (show v = .str n from h2); rw [Reps.txts h3]; rfl
theorem Reps.of_txts {K Λ ι H} : ∀ {ns : List Str}, Reps K Λ ι H (ns.map .str) (ns.map V.str)
  | [] => rfl
  | n :: ns => ⟨_, _, rfl, rfl, Reps.of_txts⟩
theorem Reps.inv1 {K Λ ι H} {d : D} {vs : List V} (h : Reps K Λ ι H [d] vs) : ∃ v, vs = [v] ∧ Rep K Λ ι H d v := by
  obtain ⟨v, r, h1, h2, h3⟩ := h
  cases (show r = [] from h3)
  exact ⟨v, h1, h2⟩
theorem Reps.inv2 {K Λ ι H} {d e : D} {vs : List V} (h : Reps K Λ ι H [d, e] vs) : ∃ v u, vs = [v, u] ∧ Rep K Λ ι H d v ∧ Rep K Λ ι H e u := by
  obtain ⟨v, r, h1, h2, h3⟩ := h
  obtain ⟨u, q1, q2⟩ := Reps.inv1 h3
  exact ⟨v, u, by rw [h1, q1], h2, q2⟩
def dLen (μ : Sto) : List D → Option D
  | [.str z] => if z.length ≤ 16777216 then some (.int z.length) else none
  | [d] => match sqD μ d with
    | some xs => some (.int xs.length)
    | none => none
  | _ => none
def dAbs (_ : Sto) : List D → Option D
  | [.int i] => some (.int (if i < 0 then -i else i))
  | _ => none
def dMax2 (_ : Sto) : List D → Option D
  | [.int i, .int j] => some (.int (if j > i then j else i))
  | _ => none
def dMin2 (_ : Sto) : List D → Option D
  | [.int i, .int j] => some (.int (if j < i then j else i))
  | _ => none
def dInt (_ : Sto) : List D → Option D
  | [.int i] => some (.int i)
  | [.bl k] => some (.int (if k then 1 else 0))
  | [.str a] => if a.length ≤ 640 then (match PySem.intText? a with
    | some n => some (.int n)
    | none => none) else none
  | _ => none
def dStr (_ : Sto) : List D → Option D
  | [.int i] => if i.natAbs.log2 < 1920 then some (.str (toString i)) else none
  | _ => none
def dSum (μ : Sto) : List D → Option D
  | [d] => match vw μ d with
    | some xs => match intsD xs with
      | some ns => some (.int ns.sum)
      | none => none
    | none => none
  | _ => none
def dList (μ : Sto) : List D → Option D
  | [d] => match sqD μ d with
    | some xs => some (.lst xs)
    | none => none
  | _ => none
def dTuple (μ : Sto) : List D → Option D
  | [.tup xs] => some (.tup xs)
  | [d] => match vw μ d with
    | some xs => some (.tup xs)
    | none => none
  | _ => none
section
variable {g : Gb} {k : Nat} {Λ : Lr}
theorem dc_len : DCall g k Λ (.builtin "len") dLen := by
  intro X ok pins s σ H xs us Q I r ⟨ι, μ, ds, d, m, rs, e, q⟩
  unfold dLen at e
  split at e
  · split at e
    · rename_i hz
      cases e
      obtain ⟨v, rfl, rv⟩ := rs.inv1
      cases rv
      exact call_len_str pins s σ H _ us Q I r ⟨_, rfl, szl_le hz, q ι H _ (.refl _ _) m rfl⟩
    · cases e
  · split at e
    · rename_i d' _ xs hx
      cases e
      obtain ⟨v, rfl, rv⟩ := rs.inv1
      obtain ⟨a, vs, rfl, h2, h3⟩ := sq_rd m rv hx
      exact call_len_seq pins s σ H _ us Q I r ⟨a, vs, rfl, by rw [ok.K]; exact h2, q ι H _ (.refl _ _) m (by show V.int _ = V.int _; rw [h3.len])⟩
    · cases e
  · cases e
theorem dc_abs : DCall g k Λ (.builtin "abs") dAbs := by
  intro X ok pins s σ H xs us Q I r ⟨ι, μ, ds, d, m, rs, e, q⟩
  unfold dAbs at e
  split at e
  · cases e
    obtain ⟨v, rfl, rv⟩ := rs.inv1
    cases rv
    exact call_abs pins s σ H _ us Q I r ⟨_, rfl, q ι H _ (.refl _ _) m rfl⟩
  · cases e
theorem dc_max2 : DCall g k Λ (.builtin "max") dMax2 := by
  intro X ok pins s σ H xs us Q I r ⟨ι, μ, ds, d, m, rs, e, q⟩
  unfold dMax2 at e
  split at e
  · cases e
    obtain ⟨v, u, rfl, rv, ru⟩ := rs.inv2
    cases rv; cases ru
    exact call_max2 ok.calm pins s σ H _ us Q I r ⟨_, _, rfl, q ι H _ (.refl _ _) m rfl⟩
  · cases e
theorem dc_min2 : DCall g k Λ (.builtin "min") dMin2 := by
  intro X ok pins s σ H xs us Q I r ⟨ι, μ, ds, d, m, rs, e, q⟩
  unfold dMin2 at e
  split at e
  · cases e
    obtain ⟨v, u, rfl, rv, ru⟩ := rs.inv2
    cases rv; cases ru
    exact call_min2 ok.calm pins s σ H _ us Q I r ⟨_, _, rfl, q ι H _ (.refl _ _) m rfl⟩
  · cases e
theorem dc_int : DCall g k Λ (.type "int") dInt := by
  intro X ok pins s σ H xs us Q I r ⟨ι, μ, ds, d, m, rs, e, q⟩
  unfold dInt at e
  split at e
  · cases e
    obtain ⟨v, rfl, rv⟩ := rs.inv1
    cases rv
    exact call_int1 pins s σ H _ us Q I r (.inl ⟨_, rfl, q ι H _ (.refl _ _) m rfl⟩)
  · cases e
    obtain ⟨v, rfl, rv⟩ := rs.inv1
    cases rv
    exact call_int1 pins s σ H _ us Q I r (.inr ⟨_, rfl, q ι H _ (.refl _ _) m rfl⟩)
  · split at e
    · split at e
      · rename_i hz _ n hn
        cases e
        obtain ⟨v, rfl, rv⟩ := rs.inv1
        cases rv
        exact call_int_str pins s σ H _ us Q I r ⟨_, n, rfl, hn, hz, q ι H _ (.refl _ _) m rfl⟩
      · cases e
    · cases e
  · cases e
theorem dc_str : DCall g k Λ (.type "str") dStr := by
  intro X ok pins s σ H xs us Q I r ⟨ι, μ, ds, d, m, rs, e, q⟩
  unfold dStr at e
  split at e
  · split at e
    · rename_i hz
      cases e
      obtain ⟨v, rfl, rv⟩ := rs.inv1
      cases rv
      exact call_str_int pins s σ H _ us Q I r ⟨_, rfl, hz, q ι H _ (.refl _ _) m rfl⟩
    · cases e
  · cases e
theorem cr_sumR {X : Cx} (hc : X.calm = true) : CallR X (.builtin "sum") (rSum X.K) := cr_sum hc
theorem dc_sum : DCall g k Λ (.builtin "sum") dSum := by
  intro X ok pins s σ H xs us Q I r ⟨ι, μ, ds, d, m, rs, e, q⟩
  unfold dSum at e
  split at e
  · split at e
    · rename_i ys hy
      split at e
      · rename_i ns hn
        cases e
        obtain ⟨v, rfl, rv⟩ := rs.inv1
        obtain ⟨a, vs, rfl, h2, h3⟩ := vw_rd m rv hy
        rw [ints_eq hn] at h3
        have := h3.ints
        subst this
        exact cr_sum ok.calm pins s σ H _ us Q I r ⟨a, ns, rfl, .inl h2, q ι H _ (.refl _ _) m rfl⟩
      · cases e
    · cases e
  · cases e
theorem dc_list : DCall g k Λ (.type "list") dList := by
  intro X ok pins s σ H xs us Q I r ⟨ι, μ, ds, d, m, rs, e, q⟩
  unfold dList at e
  split at e
  · split at e
    · rename_i ys hy
      cases e
      obtain ⟨v, rfl, rv⟩ := rs.inv1
      obtain ⟨a, vs, rfl, h2, h3⟩ := sq_rd m rv hy
      refine call_list_of pins s σ H _ us Q I r ⟨a, vs, rfl, by rw [ok.K]; exact h2, fun l hl => ?_⟩
      obtain ⟨y1, y2, y3⟩ := new_lst m hl h3
      exact q _ _ _ y1 y2 y3
    · cases e
  · cases e
theorem dc_tuple : DCall g k Λ (.type "tuple") dTuple := by
  intro X ok pins s σ H xs us Q I r ⟨ι, μ, ds, d, m, rs, e, q⟩
  unfold dTuple at e
  split at e
  · cases e
    obtain ⟨v, rfl, rv⟩ := rs.inv1
    obtain ⟨a, vs, rfl, h2, h3⟩ := id rv
    exact call_tuple_of pins s σ H _ us Q I r ⟨a, vs, rfl, .inr ⟨by rw [ok.K]; exact h2.sq, q ι H _ (.refl _ _) m rv⟩⟩
  · split at e
    · rename_i ys hy
      cases e
      obtain ⟨v, rfl, rv⟩ := rs.inv1
      obtain ⟨a, vs, rfl, h2, h3⟩ := vw_rd m rv hy
      refine call_tuple_of pins s σ H _ us Q I r ⟨a, vs, rfl, .inl ⟨.inl h2, fun l hl => ?_⟩⟩
      obtain ⟨y1, y2, y3⟩ := new_tup m hl h3
      exact q _ _ _ y1 y2 y3
    · cases e
  · cases e
variable {X : Cx} {W : WX} {a : Expr} {es : List Expr} {fs : Cb (List D)} {p pos : Pos} {o : Sto → List D → Option D}
theorem de_bfn {id : String} {x : Str} (hv : bootBuiltins x = some (.builtin id)) (hc : DCall g k Λ (.builtin id) o) (hm : g.mg x = none) (ha : DA g k Λ X W (a :: es) fs) (hg : Gl X x := by rfl) (hn : x ≠ "__name__" := by decide) (hdb : (x == ("__debug__" : Str)) = false := by decide)
    (he : starEach (a :: es) X.env = (false, eval a X.env) :: starEach es X.env := by rfl) (hpl : (backTo pos (starEach es X.env)).any (·.1) = false := by rfl) : DE g k Λ X W (.Call (.Name x p) (a :: es) [] pos) (bFn o fs) := fun ok tk =>
  PE.imp (pe_callB (hc X ok) hg (by rw [ok.mg]; exact hm) hv (ha ok tk) hn hdb he hpl) fun σ H Q ⟨ι, ρ, μ, r, l, m, e, p⟩ => go_A l m e p.px fun ds μ2 ι2 H2 vs e1 e3 x2 m2 l2 r2 => by
    obtain ⟨z, hz, rfl⟩ := rt_some e3
    exact ⟨ι2, μ2, ds, z, m2, r2, hz, p.ext x2⟩
theorem de_tfn {T : String} {x : Str} (hv : bootBuiltins x = some (.type T)) (hc : DCall g k Λ (.type T) o) (hm : g.mg x = none) (ha : DA g k Λ X W (a :: es) fs) (hg : Gl X x := by rfl) (hn : x ≠ "__name__" := by decide) (hdb : (x == ("__debug__" : Str)) = false := by decide)
    (he : starEach (a :: es) X.env = (false, eval a X.env) :: starEach es X.env := by rfl) (hpl : (backTo pos (starEach es X.env)).any (·.1) = false := by rfl) : DE g k Λ X W (.Call (.Name x p) (a :: es) [] pos) (bFn o fs) := fun ok tk =>
  PE.imp (pe_callTy (hc X ok) hg (by rw [ok.mg]; exact hm) hv (ha ok tk) hn hdb he hpl) fun σ H Q ⟨ι, ρ, μ, r, l, m, e, p⟩ => go_A l m e p.px fun ds μ2 ι2 H2 vs e1 e3 x2 m2 l2 r2 => by
    obtain ⟨z, hz, rfl⟩ := rt_some e3
    exact ⟨ι2, μ2, ds, z, m2, r2, hz, p.ext x2⟩
end
end Mi

set_option Elab.async false
set_option linter.all false
set_option maxRecDepth 100000
set_option maxHeartbeats 4000000
namespace Mi
open PySem L2

/-! ### texts -/
def bFmt (f : Cb D) : Cb D := fun ρ μ => ob (f ρ μ) fun d μ1 => match d with
  | .str y => if y.length ≤ 16777216 then some (.ok (.str y) μ1) else none
  | .int i => if i.natAbs.log2 < 1920 then some (.ok (.str (toString i)) μ1) else none
  | _ => none
def bJs : List (Cb D) → Str → Cb D
  | [], acc => fun _ μ => some (.ok (.str acc) μ)
  | f :: fs, acc => fun ρ μ => ob (f ρ μ) fun d μ1 => match d with
    | .str y => if (acc ++ y).length ≤ 16777216 then bJs fs (acc ++ y) ρ μ1 else none
    | _ => none
def bM1 (o : Sto → Str → D → Option D) (fa fb : Cb D) : Cb D := fun ρ μ => ob (fa ρ μ) fun x μ1 => match x with
  | .str a => ob (fb ρ μ1) fun y μ2 => rt (o μ2 a y) μ2
  | _ => none
def dSplit (_ : Sto) (a : Str) : D → Option D
  | .str b => if (b.length == 0) = false ∧ a.length + 2 ≤ 16777216 then some (.lst ((Txt.split a b).map .str)) else none
  | _ => none
def dJoin (μ : Sto) (a : Str) (y : D) : Option D := match sqD μ y with
  | some ds => match txtsD ds with
    | some ys => if (ys.map (·.length)).sum + ys.length * a.length ≤ 16777216 then some (.str (Txt.join a ys)) else none
    | none => none
  | none => none
/-! ### slices -/
def cutD {α : Type} (xs : List α) (lo hi : Option Int) : List α := (xs.drop (HT.sIx xs.length 0 lo)).take (HT.sIx xs.length xs.length hi - HT.sIx xs.length 0 lo)
def dSl (μ : Sto) (x : D) (lo hi : Option Int) : Option D := match x with
  | .scr ns => some (.lst ((cutD ns lo hi).map .int))
  | .str z => if z.length ≤ 16777216 then some (.str (cutS z lo hi)) else none
  | .tup xs => some (.tup (cutD xs lo hi))
  | d => match vw μ d with
    | some xs => some (.lst (cutD xs lo hi))
    | none => none
def bNoPart : Cb (Option Int) := fun _ μ => some (.ok none μ)
def bPart (f : Cb D) : Cb (Option Int) := fun ρ μ => ob (f ρ μ) fun d μ1 => match d with
  | .int i => some (.ok (some i) μ1)
  | _ => none
def bSl (fa : Cb D) (fl fh : Cb (Option Int)) : Cb D := fun ρ μ => ob (fa ρ μ) fun x μ1 => ob (fl ρ μ1) fun lo μ2 => ob (fh ρ μ2) fun hi μ3 => rt (dSl μ3 x lo hi) μ3
section
variable {g : Gb} {k : Nat} {Λ : Lr} {X : Cx} {W : WX} {a b c : Expr} {fa fb fc : Cb D} {pos p2 apos : Pos}
theorem de_fmt (ha : DE g k Λ X W a fa) : DE g k Λ X W (.FormattedValue a (-1) none pos) (bFmt fa) := fun ok tk =>
  PE.imp (pe_fmt (ha ok tk)) fun σ H Q ⟨ι, ρ, μ, r, l, m, e, p⟩ => go_E (X1 := True) l m e p.px fun d μ1 ι1 H1 v e1 e2 x1 m1 l1 r1 => by
    split at e2
    · split at e2
      · rename_i hz
        cases e2; cases r1
        exact .inl ⟨_, rfl, szl_le hz, p ι1 H1 (.str _) x1 m1 rfl⟩
      · cases e2
    · split at e2
      · rename_i hz
        cases e2; cases r1
        exact .inr ⟨_, rfl, hz, p ι1 H1 (.str _) x1 m1 rfl⟩
      · cases e2
    · cases e2
def DJ (g : Gb) (k : Nat) (Λ : Lr) (X : Cx) (W : WX) (es : List Expr) (fs : List (Cb D)) : Prop := XOk g k X → Takes X W → PJ X es (fs.map (rdE g Λ W))
theorem dj_nil : DJ g k Λ X W [] [] := fun _ _ => .nil
theorem dj_cons {es : List Expr} {fs : List (Cb D)} (ha : DE g k Λ X W a fa) (hr : DJ g k Λ X W es fs) : DJ g k Λ X W (a :: es) (fa :: fs) := fun ok tk => .cons (ha ok tk) (hr ok tk)
theorem js_rd {σ : St} {ρ : En} {r : Out D} {Q : VK} : ∀ (fs : List (Cb D)) (acc : Str) (ι : List Addr) (H : Hp) (μ : Sto), LR g Λ ι H σ ρ → MR g Λ ι H μ → bJs fs acc ρ μ = some r → Post g Λ W ι H σ r Q → tJs (fs.map (rdE g Λ W)) acc σ H fun out H1 => Q (.str out) H1
  | [], acc, ι, H, μ, l, m, e, p => by cases e; exact p ι H (.str acc) (.refl _ _) m rfl
  | f :: fs, acc, ι, H, μ, l, m, e, p => go_E (X1 := True) l m (show ob (f ρ μ) _ = some r from e) p.px fun d μ1 ι1 H1 v e1 e2 x1 m1 l1 r1 => by
    split at e2
    · split at e2
      · rename_i hz
        cases r1
        exact ⟨_, rfl, szl_le hz, js_rd fs _ ι1 H1 μ1 l1 m1 e2 (p.ext x1)⟩
      · cases e2
    · cases e2
theorem de_joined {es : List Expr} {f1 f2 : Cb D} {fs : List (Cb D)} (h : DJ g k Λ X W (a :: b :: es) (f1 :: f2 :: fs)) : DE g k Λ X W (.JoinedStr (a :: b :: es) pos) (bJs (f1 :: f2 :: fs) Str.empty) := fun ok tk =>
  PE.imp (pe_joined (h ok tk)) fun σ H Q ⟨ι, ρ, μ, r, l, m, e, p⟩ => js_rd (f1 :: f2 :: fs) Str.empty ι H μ l m e p
theorem de_joined1 (h : DE g k Λ X W a fa) : DE g k Λ X W (.JoinedStr [a] pos) fa := fun ok tk => pe_joined1 (h ok tk)
theorem rd_m1 {o : Sto → Str → D → Option D} {rr : V → List V → Hp → VK → Prop} {σ : St} {H : Hp} {Q : VK}
    (hrr : ∀ a y H Q, (∃ ι μ b d, MR g Λ ι H μ ∧ Rep g.K Λ ι H b y ∧ o μ a b = some d ∧ ∀ ι' H' v, Ext ι H ι' H' → MR g Λ ι' H' μ → Rep g.K Λ ι' H' d v → Q v H') → rr (.str a) [y] H Q)
    (h : rdE g Λ W (bM1 o fa fb) σ H Q) : tM1 rr (rdE g Λ W fa) (rdE g Λ W fb) σ H Q := by
  obtain ⟨ι, ρ, μ, r, l, m, e, p⟩ := h
  refine go_E (X1 := True) l m e p.px fun d μ1 ι1 H1 v e1 e2 x1 m1 l1 r1 => ?_
  split at e2
  · cases r1
    refine ⟨⟨_, rfl⟩, go_E (X1 := True) l1 m1 e2 (p.ext x1).px fun d2 μ2 ι2 H2 v2 _ e3 x2 m2 l2 r2 => ?_⟩
    obtain ⟨z, hz, rfl⟩ := rt_some e3
    exact hrr _ _ _ _ ⟨ι2, μ2, d2, z, m2, r2, hz, (p.ext x1).ext x2⟩
  · cases e2
theorem de_split (ha : DE g k Λ X W a fa) (hb : DE g k Λ X W b fb) (hs : starEach [b] X.env = [(false, eval b X.env)] := by rfl) (hbase : attributeBase a "split" X.env (eval a X.env) = eval a X.env := by rfl) (hline : (apos.endLine == pos.line) = true := by rfl) :
    DE g k Λ X W (.Call (.Attribute a "split" apos) [b] [] pos) (bM1 dSplit fa fb) := fun ok tk => PE.imp (pe_split (ha ok tk) (hb ok tk) hs hbase hline) fun σ H Q h => rd_m1 (fun z y H Q ⟨ι, μ, bb, d, m, rb, e, q⟩ => by
  unfold dSplit at e
  split at e
  · split at e
    · rename_i hz
      cases e; cases rb
      refine ⟨z, _, rfl, rfl, hz.1, szl_le hz.2, fun p hp => ?_⟩
      obtain ⟨y1, y2, y3⟩ := new_lst m hp (Reps.of_txts (ns := Txt.split z _))
      exact q _ _ _ y1 y2 y3
    · cases e
  · cases e) h
theorem de_join (ha : DE g k Λ X W a fa) (hb : DE g k Λ X W b fb) (hs : starEach [b] X.env = [(false, eval b X.env)] := by rfl) (hbase : attributeBase a "join" X.env (eval a X.env) = eval a X.env := by rfl) (hline : (apos.endLine == pos.line) = true := by rfl) :
    DE g k Λ X W (.Call (.Attribute a "join" apos) [b] [] pos) (bM1 dJoin fa fb) := fun ok tk => PE.imp (pe_join (ha ok tk) (hb ok tk) hs hbase hline) fun σ H Q h => rd_m1 (fun z y H Q ⟨ι, μ, bb, d, m, rb, e, q⟩ => by
  unfold dJoin at e
  split at e
  · rename_i ds hd
    split at e
    · rename_i ys hy
      split at e
      · rename_i hz
        cases e
        obtain ⟨p, vs, rfl, h2, h3⟩ := sq_rd m rb hd
        rw [txts_eq hy] at h3
        have := h3.txts
        subst this
        exact ⟨z, p, ys, rfl, rfl, by rw [ok.K]; exact h2, hz, q ι H _ (.refl _ _) m rfl⟩
      · cases e
    · cases e
  · cases e) h
/-! slices -/
def PostO (g : Gb) (Λ : Lr) (W : WX) (ι : List Addr) (H : Hp) (σ : St) (r : Out (Option Int)) (Q : Option Int → Hp → Prop) : Prop :=
  match r with
  | .ok b μ => ∀ ι' H', Ext ι H ι' H' → MR g Λ ι' H' μ → Q b H'
  | .exc c μ => ∀ ι' H', Ext ι H ι' H' → MR g Λ ι' H' μ → W (.ref (g.cls c)) none σ H'
def rdO (g : Gb) (Λ : Lr) (W : WX) (f : Cb (Option Int)) : TO := fun σ H Q => ∃ ι ρ μ r, LR g Λ ι H σ ρ ∧ MR g Λ ι H μ ∧ f ρ μ = some r ∧ PostO g Λ W ι H σ r Q
def DO_ (g : Gb) (k : Nat) (Λ : Lr) (X : Cx) (W : WX) (e : Option Expr) (f : Cb (Option Int)) : Prop := XOk g k X → Takes X W → PO X e (rdO g Λ W f)
theorem PO.imp {X : Cx} {e : Option Expr} {t u : TO} (h : PO X e t) (i : ∀ σ H Q, u σ H Q → t σ H Q) : PO X e u := ⟨fun pins s σ H Q I q => h.run pins s σ H Q I (i σ H Q q)⟩
theorem do_none : DO_ g k Λ X W none bNoPart := fun _ _ => PO.imp po_none fun σ H Q ⟨ι, ρ, μ, r, l, m, e, p⟩ => by cases e; exact p ι H (.refl _ _) m
theorem do_some (ha : DE g k Λ X W a fa) : DO_ g k Λ X W (some a) (bPart fa) := fun ok tk => PO.imp (po_some (ha ok tk)) fun σ H Q ⟨ι, ρ, μ, r, l, m, e, p⟩ =>
  go_E (X1 := True) l m e (fun c μ1 er => by subst er; exact p) fun d μ1 ι1 H1 v e1 e2 x1 m1 l1 r1 => by
    split at e2
    · cases e2; cases r1; exact ⟨_, rfl, p ι1 H1 x1 m1⟩
    · cases e2
theorem go_O {β : Type} {ι : List Addr} {H : Hp} {σ : St} {ρ : En} {μ : Sto} {f : Cb (Option Int)} {kk : Option Int → Sto → Option (Out β)} {r : Out β} {R : Option Int → Hp → Prop} (l : LR g Λ ι H σ ρ) (m : MR g Λ ι H μ) (h : ob (f ρ μ) kk = some r)
    (px : ∀ c μ1, r = .exc c μ1 → ∀ ι' H', Ext ι H ι' H' → MR g Λ ι' H' μ1 → W (.ref (g.cls c)) none σ H')
    (go : ∀ d μ1 ι1 H1, f ρ μ = some (.ok d μ1) → kk d μ1 = some r → Ext ι H ι1 H1 → MR g Λ ι1 H1 μ1 → LR g Λ ι1 H1 σ ρ → R d H1) : rdO g Λ W f σ H R := by
  cases q : f ρ μ with
  | none => rw [q] at h; cases h
  | some o =>
    refine ⟨ι, ρ, μ, o, l, m, q, ?_⟩
    cases o with
    | ok d μ1 => rw [q] at h; exact fun ι1 H1 e m1 => go d μ1 ι1 H1 q h e m1 (l.ext e)
    | exc c μ1 =>
      rw [q] at h
      exact px c μ1 (Option.some.inj (show some (Out.exc c μ1) = some r from h)).symm
theorem sl_all {X : Cx} : SlR X (fun x lo hi H Q => rSlL X.K x lo hi H Q ∨ rSlA X.K x lo hi H Q ∨ rSlS x lo hi H Q) := SlR.or sl_list (SlR.or sl_tupA sl_str)
theorem cut_reps {ι : List Addr} {H : Hp} {ds : List D} {vs : List V} {lo hi : Option Int} (r : Reps g.K Λ ι H ds vs) : Reps g.K Λ ι H (cutD ds lo hi) (cutV vs lo hi) := by
  unfold cutD cutV
  rw [r.len]
  exact (r.drop _).take _
theorem cut_whole {α : Type} {xs : List α} {lo hi : Option Int} (h : HT.sIx xs.length 0 lo = 0 ∧ HT.sIx xs.length xs.length hi = xs.length) : cutD xs lo hi = xs := by
  unfold cutD
  rw [h.1, h.2]
  simp
theorem de_sl {lo hi : Option Expr} {fl fh : Cb (Option Int)} (ha : DE g k Λ X W a fa) (hl : DO_ g k Λ X W lo fl) (hh : DO_ g k Λ X W hi fh) : DE g k Λ X W (.Subscript a (.Slice lo hi none p2) pos) (bSl fa fl fh) := fun ok tk =>
  PE.imp (pe_slice sl_all (ha ok tk) (hl ok tk) (hh ok tk)) fun σ H Q ⟨ι, ρ, μ, r, l, m, e, p⟩ => go_E (X1 := True) l m e p.px fun d μ1 ι1 H1 v e1 e2 x1 m1 l1 r1 =>
    go_O l1 m1 e2 (p.ext x1).px fun lo μ2 ι2 H2 _ e3 x2 m2 l2 => go_O l2 m2 e3 ((p.ext x1).ext x2).px fun hi μ3 ι3 H3 _ e4 x3 m3 l3 => by
      obtain ⟨z, hz, rfl⟩ := rt_some e4
      have p3 := ((p.ext x1).ext x2).ext x3
      have r3 := (r1.ext x2).ext x3
      unfold dSl at hz
      split at hz
      · rename_i ns
        cases hz
        obtain ⟨a, rfl, h2⟩ := r3
        refine .inl ⟨a, _, rfl, by rw [ok.K]; exact h2.sq, fun p hp => ?_⟩
        have hc : cutV (ns.map V.int) lo hi = (cutD ns lo hi).map V.int := by
          unfold cutV cutD
          rw [List.length_map, List.map_take, List.map_drop]
        rw [hc]
        obtain ⟨y1, y2, y3⟩ := new_lst m3 hp (Reps.of_ints (ns := cutD ns lo hi))
        exact p3 _ _ _ y1 y2 y3
      · split at hz
        · rename_i hl
          cases hz; cases r3
          exact .inr (.inr ⟨_, rfl, szl_le hl, p3 ι3 H3 (.str _) (.refl _ _) m3 rfl⟩)
        · cases hz
      · rename_i xs
        cases hz
        obtain ⟨a, vs, rfl, h2, h3⟩ := id r3
        refine .inr (.inl ⟨a, vs, rfl, by rw [ok.K]; exact h2.sq, fun hw => ?_, fun hw p hp => ?_⟩)
        · have hc : cutD xs lo hi = xs := cut_whole (by rw [h3.len]; exact hw)
          rw [hc] at p3
          exact p3 ι3 H3 _ (.refl _ _) m3 r3
        · obtain ⟨y1, y2, y3⟩ := new_tup m3 hp (cut_reps (lo := lo) (hi := hi) h3)
          exact p3 _ _ _ y1 y2 y3
      · split at hz
        · rename_i xs hx
          cases hz
          obtain ⟨a, vs, rfl, h2, h3⟩ := vw_rd m3 r3 hx
          refine .inl ⟨a, vs, rfl, .inl h2, fun p hp => ?_⟩
          obtain ⟨y1, y2, y3⟩ := new_lst m3 hp (cut_reps (lo := lo) (hi := hi) h3)
          exact p3 _ _ _ y1 y2 y3
        · cases hz
end
/-! ### dicts: a display, a look-up -/
theorem notq {H : Hp} {p : Addr} {av : List Addr} {a : Addr} {u : HO} (hp : H p = none) (h : H a = some u) (n : a ∉ av) : a ∉ p :: av := by
  intro z
  rcases List.mem_cons.mp z with z | z
  · rw [z, hp] at h; cases h
  · exact n z
theorem notp {H : Hp} {p : Addr} {av : List Addr} {a : Addr} {u : HO} (hp : H p = none) (h : Rd H a u) (n : a ∉ av) : a ∉ p :: av := by
  rcases h with h | ⟨w, h⟩
  · exact notq hp h n
  · exact notq hp h n
/-! another object may change, if the frame leaves it alone -/
theorem Rd.out {Λ : Lr} {H : Hp} {p a : Addr} {o u : HO} (hp : p ∈ Λ.av) (h : Rd H a u) (n : a ∉ Λ.av) : Rd (upd H p o) a u := by
  have e : a ≠ p := fun z => n (by rw [z]; exact hp)
  rcases h with h | ⟨w, h⟩
  · exact .inl (by rw [upd_ne e]; exact h)
  · exact .inr ⟨w, by rw [upd_ne e]; exact h⟩
section
variable {K : PySem.W.Frag} {Λ : Lr} {ι : List Addr} {H : Hp} {p : Addr} {o : HO}
mutual
theorem Rep.out (hp : p ∈ Λ.av) (hq : ∀ c q, H p ≠ some (LamX.CodeO c q)) : ∀ (d : D) {v : V}, Rep K Λ ι H d v → Rep K Λ ι (upd H p o) d v
  | .non, _, h => h
  | .bl _, _, h => h
  | .int _, _, h => h
  | .str _, _, h => h
  | .tup xs, _, ⟨a, vs, h1, h2, h3⟩ => ⟨a, vs, h1, h2.elim (fun h => .inl ⟨Rd.out hp h.1 h.2.2, h.2⟩) .inr, Reps.out hp hq xs h3⟩
  | .lst xs, _, ⟨a, vs, h1, h2, h3⟩ => ⟨a, vs, h1, ⟨Rd.out hp h2.1 h2.2.2, h2.2⟩, Reps.out hp hq xs h3⟩
  | .dct ks xs, _, ⟨a, kvs, h1, h2, h3, h4, h5⟩ => ⟨a, kvs, h1, Rd.out hp h2 h3.2, h3, h4, Reps.out hp hq xs h5⟩
  | .ref n, _, h => h
  | .lam n, _, ⟨a, c, q, u, h1, h2, h3, h4, h5, h6, h7⟩ => ⟨a, c, q, u, h1, by rw [upd_ne (fun z => h4.2 (by rw [z]; exact hp))]; exact h2, h3, h4, by rw [upd_ne (fun z => hq c q (by rw [← z]; exact h5))]; exact h5, h6, h7⟩
  | .scr ns, _, ⟨a, h1, h2⟩ => ⟨a, h1, h2.elim (fun h => .inl ⟨Rd.out hp h.1 h.2.2, h.2⟩) .inr⟩
theorem Reps.out (hp : p ∈ Λ.av) (hq : ∀ c q, H p ≠ some (LamX.CodeO c q)) : ∀ (ds : List D) {vs : List V}, Reps K Λ ι H ds vs → Reps K Λ ι (upd H p o) ds vs
  | [], _, h => h
  | d :: ds, _, ⟨v, r, h1, h2, h3⟩ => ⟨v, r, h1, Rep.out hp hq d h2, Reps.out hp hq ds h3⟩
end
/-- a new object that is to be left alone -/
abbrev Lr.add (Λ : Lr) (p : Addr) : Lr := ⟨Λ.lam, p :: Λ.av⟩
mutual
theorem Rep.add (hp : H p = none) : ∀ (d : D) {v : V}, Rep K Λ ι H d v → Rep K (Λ.add p) ι H d v
  | .non, _, h => h
  | .bl _, _, h => h
  | .int _, _, h => h
  | .str _, _, h => h
  | .tup xs, _, ⟨a, vs, h1, h2, h3⟩ => ⟨a, vs, h1, h2.elim (fun h => .inl ⟨h.1, h.2.1, notp hp h.1 h.2.2⟩) .inr, Reps.add hp xs h3⟩
  | .lst xs, _, ⟨a, vs, h1, h2, h3⟩ => ⟨a, vs, h1, ⟨h2.1, h2.2.1, notp hp h2.1 h2.2.2⟩, Reps.add hp xs h3⟩
  | .dct ks xs, _, ⟨a, kvs, h1, h2, h3, h4, h5⟩ => ⟨a, kvs, h1, h2, ⟨h3.1, notp hp h2 h3.2⟩, h4, Reps.add hp xs h5⟩
  | .ref n, _, h => h
  | .lam n, _, ⟨a, c, q, u, h1, h2, h3, h4, h5, h6, h7⟩ => ⟨a, c, q, u, h1, h2, h3, ⟨h4.1, notq hp h2 h4.2⟩, h5, h6, h7⟩
  | .scr ns, _, ⟨a, h1, h2⟩ => ⟨a, h1, h2.elim (fun h => .inl ⟨h.1, h.2.1, notp hp h.1 h.2.2⟩) .inr⟩
theorem Reps.add (hp : H p = none) : ∀ (ds : List D) {vs : List V}, Reps K Λ ι H ds vs → Reps K (Λ.add p) ι H ds vs
  | [], _, h => h
  | d :: ds, _, ⟨v, r, h1, h2, h3⟩ => ⟨v, r, h1, Rep.add hp d h2, Reps.add hp ds h3⟩
end
mutual
theorem Rep.sub : ∀ (d : D) {v : V}, Rep K (Λ.add p) ι H d v → Rep K Λ ι H d v
  | .non, _, h => h
  | .bl _, _, h => h
  | .int _, _, h => h
  | .str _, _, h => h
  | .tup xs, _, ⟨a, vs, h1, h2, h3⟩ => ⟨a, vs, h1, h2.elim (fun h => .inl ⟨h.1, h.2.1, fun z => h.2.2 (List.mem_cons_of_mem _ z)⟩) .inr, Reps.sub xs h3⟩
  | .lst xs, _, ⟨a, vs, h1, h2, h3⟩ => ⟨a, vs, h1, ⟨h2.1, h2.2.1, fun z => h2.2.2 (List.mem_cons_of_mem _ z)⟩, Reps.sub xs h3⟩
  | .dct ks xs, _, ⟨a, kvs, h1, h2, h3, h4, h5⟩ => ⟨a, kvs, h1, h2, ⟨h3.1, fun z => h3.2 (List.mem_cons_of_mem _ z)⟩, h4, Reps.sub xs h5⟩
  | .ref n, _, h => h
  | .lam n, _, ⟨a, c, q, u, h1, h2, h3, h4, h5, h6, h7⟩ => ⟨a, c, q, u, h1, h2, h3, ⟨h4.1, fun z => h4.2 (List.mem_cons_of_mem _ z)⟩, h5, h6, h7⟩
  | .scr ns, _, ⟨a, h1, h2⟩ => ⟨a, h1, h2.elim (fun h => .inl ⟨h.1, h.2.1, fun z => h.2.2 (List.mem_cons_of_mem _ z)⟩) .inr⟩
theorem Reps.sub : ∀ (ds : List D) {vs : List V}, Reps K (Λ.add p) ι H ds vs → Reps K Λ ι H ds vs
  | [], _, h => h
  | d :: ds, _, ⟨v, r, h1, h2, h3⟩ => ⟨v, r, h1, Rep.sub d h2, Reps.sub ds h3⟩
end
end
section
variable {g : Gb} {Λ : Lr} {ι : List Addr} {H : Hp} {μ : Sto} {p : Addr} {o o' : HO} {σ : St} {ρ : En}
theorem ObjR.out (hp : p ∈ Λ.av) (hq : ∀ c q, H p ≠ some (LamX.CodeO c q)) {so : SO} {a : Addr} (hk : a ≠ p) (h : ObjR g Λ ι H so a) : ObjR g Λ ι (upd H p o) so a := by
  have hp' : p ∈ Λ.pure.av := hp
  cases so with
  | lst xs => obtain ⟨vs, h3, h4⟩ := h; exact ⟨vs, by rw [upd_ne hk]; exact h3, Reps.out hp' hq xs h4⟩
  | dct ks xs => obtain ⟨vs, h3, h5, h4⟩ := h; exact ⟨vs, by rw [upd_ne hk]; exact h3, h5, Reps.out hp' hq xs h4⟩
  | ins c fs xs => obtain ⟨dx, vs, h3, h4, h5, h6, h7⟩ := h; exact ⟨dx, vs, by rw [upd_ne hk]; exact h3, h4, by rw [upd_ne (fun z => h4.2 (by rw [z]; exact hp))]; exact h5, h6, Reps.out hp' hq xs h7⟩
theorem TabS.out {P : Addr} {q : Str} (hc : ∀ c, u = LamX.CodeO c q → False) (h0 : H p = some u) (nt : ∀ ps, u ≠ .tbl ps) (t : LamX.TabS H P q) : LamX.TabS (upd H p o) P q := by
  obtain ⟨ps, h1, h2, h3⟩ := t
  refine ⟨ps, ?_, h2, fun pos cv hc' => ?_⟩
  · rw [upd_ne (fun z => by rw [z, h0] at h1; exact nt ps (Option.some.inj h1))]; exact h1
  · obtain ⟨c, e1, e2⟩ := h3 pos cv hc'
    exact ⟨c, e1, by rw [upd_ne (fun z => by rw [z, h0] at e2; exact hc p (Option.some.inj e2))]; exact e2⟩
theorem MR.out (m : MR g Λ ι H μ) (hp : p ∈ Λ.av) (hi : p ∉ ι) (h0 : H p = some u) (nt : ∀ ps, u ≠ .tbl ps) (hc : ∀ c q, u = LamX.CodeO c q → False) (no : ∀ ps, o ≠ .tbl ps) : MR g Λ ι (upd H p o) μ := by
  refine ⟨m.len, m.nd, fun n so q => ?_, fun t ht => TabS.out (fun c z => hc c _ z) h0 nt (m.tabs t ht), fun a ha => ?_⟩
  · obtain ⟨a, h1, h2⟩ := m.ob n so q
    exact ⟨a, h1, h2.out hp (fun c q z => hc c q (Option.some.inj (h0.symm.trans z))) fun z => hi (by rw [← z]; exact List.mem_of_getElem? h1)⟩
  · by_cases z : a = p
    · rw [z]; exact fun n => n.no upd_same no
    · intro n
      refine m.avs a ha fun o e => n o ?_
      rw [upd_ne z]
      exact e
theorem MR.add (m : MR g Λ ι H μ) (hp : H p = none) (no : ∀ ps, o ≠ .tbl ps) : MR g (Λ.add p) ι (upd H p o) μ := by
  have s : Sam H (upd H p o) := sam_upd hp
  refine ⟨m.len, m.nd, fun n so q => ?_, m.tabs.ext s, fun a ha => ?_⟩
  · obtain ⟨a, h1, h2⟩ := m.ob n so q
    refine ⟨a, h1, ObjR.sam s ?_⟩
    cases so with
    | lst xs => obtain ⟨vs, h3, h4⟩ := h2; exact ⟨vs, h3, Reps.add (Λ := Λ.pure) hp xs h4⟩
    | dct ks xs => obtain ⟨vs, h3, h5, h4⟩ := h2; exact ⟨vs, h3, h5, Reps.add (Λ := Λ.pure) hp xs h4⟩
    | ins c fs xs => obtain ⟨dx, vs, h3, h4, h5, h6, h7⟩ := h2; exact ⟨dx, vs, h3, ⟨h4.1, notq hp h5 h4.2⟩, h5, h6, Reps.add (Λ := Λ.pure) hp xs h7⟩
  · rcases List.mem_cons.mp ha with z | z
    · rw [z]; exact fun n => n.no upd_same no
    · exact fun n => m.avs a z ((Ext.of_sam (ι := []) s).nt a n)
theorem MR.sub (m : MR g (Λ.add p) ι H μ) : MR g Λ ι H μ := ⟨m.len, m.nd, fun n so q => by
  obtain ⟨a, h1, h2⟩ := m.ob n so q
  refine ⟨a, h1, ?_⟩
  cases so with
  | lst xs => obtain ⟨vs, h3, h4⟩ := h2; exact ⟨vs, h3, Reps.sub (Λ := Λ.pure) xs h4⟩
  | dct ks xs => obtain ⟨vs, h3, h5, h4⟩ := h2; exact ⟨vs, h3, h5, Reps.sub (Λ := Λ.pure) xs h4⟩
  | ins c fs xs => obtain ⟨dx, vs, h3, h4, h5, h6, h7⟩ := h2; exact ⟨dx, vs, h3, ⟨h4.1, fun z => h4.2 (List.mem_cons_of_mem _ z)⟩, h5, h6, Reps.sub (Λ := Λ.pure) xs h7⟩, m.tabs, fun a ha => m.avs a (List.mem_cons_of_mem _ ha)⟩
theorem LR.add (l : LR g Λ ι H σ ρ) (hp : H p = none) : LR g (Λ.add p) ι (upd H p o) σ ρ := ⟨l.len, fun i d q => by
  obtain ⟨v, h1, h2⟩ := l.at_ i d q
  exact ⟨v, h1, Rep.ext (.of_sam (sam_upd hp)) d (Rep.add hp d h2)⟩⟩
theorem LR.sub (l : LR g (Λ.add p) ι H σ ρ) : LR g Λ ι H σ ρ := ⟨l.len, fun i d q => by
  obtain ⟨v, h1, h2⟩ := l.at_ i d q
  exact ⟨v, h1, Rep.sub d h2⟩⟩
theorem LR.out (l : LR g Λ ι H σ ρ) (hp : p ∈ Λ.av) (hq : ∀ c q, H p ≠ some (LamX.CodeO c q)) : LR g Λ ι (upd H p o) σ ρ := ⟨l.len, fun i d q => by
  obtain ⟨v, h1, h2⟩ := l.at_ i d q
  exact ⟨v, h1, Rep.out hp hq d h2⟩⟩
end
end Mi

set_option Elab.async false
set_option linter.all false
set_option maxRecDepth 100000
set_option maxHeartbeats 4000000
namespace Mi
open PySem L2

/-! ### statements -/
inductive SOut where
  | nx (ρ : En) (m : Sto) | rt (d : D) (m : Sto) | ex (c : Str) (ρ : En) (m : Sto) | bk (ρ : En) (m : Sto) | ct (ρ : En) (m : Sto)
abbrev Cs := En → Sto → Option SOut
@[simp] def obS {α : Type} (r : Option (Out α)) (ρ : En) (kk : α → Sto → Option SOut) : Option SOut := match r with
  | some (.ok a m) => kk a m
  | some (.exc c m) => some (.ex c ρ m)
  | none => none
def cSeq (f1 f2 : Cs) : Cs := fun ρ μ => match f1 ρ μ with
  | some (.nx ρ1 μ1) => f2 ρ1 μ1
  | r => r
def cNop : Cs := fun ρ μ => some (.nx ρ μ)
def cStuck : Cs := fun _ _ => none
def cExp (f : Cb D) : Cs := fun ρ μ => obS (f ρ μ) ρ fun _ μ1 => some (.nx ρ μ1)
def cRet (f : Cb D) : Cs := fun ρ μ => obS (f ρ μ) ρ fun d μ1 => some (.rt d μ1)
def cRetN : Cs := fun _ μ => some (.rt .non μ)
def cIf (t : Cb Bool) (f1 f2 : Cs) : Cs := fun ρ μ => obS (t ρ μ) ρ fun b μ1 => if b then f1 ρ μ1 else f2 ρ μ1
def cSet (i : Nat) (f : Cb D) : Cs := fun ρ μ => obS (f ρ μ) ρ fun d μ1 => some (.nx (ρ.set i (some d)) μ1)
def cPar2 (i j : Nat) (f : Cb (List D)) : Cs := fun ρ μ => obS (f ρ μ) ρ fun ds μ1 => match ds with
  | [d, e] => some (.nx ((ρ.set i (some d)).set j (some e)) μ1)
  | _ => none
def cPar3 (i j l : Nat) (f : Cb (List D)) : Cs := fun ρ μ => obS (f ρ μ) ρ fun ds μ1 => match ds with
  | [d, e, f] => some (.nx (((ρ.set i (some d)).set j (some e)).set l (some f)) μ1)
  | _ => none
abbrev Tg := D → En → Sto → Option (En × Sto)
def tgName (i : Nat) : Tg := fun d ρ μ => some (ρ.set i (some d), μ)
def tgs : List Tg → List D → En → Sto → Option (En × Sto)
  | [], [] => fun ρ μ => some (ρ, μ)
  | t :: ts, d :: ds => fun ρ μ => match t d ρ μ with
    | some (ρ1, μ1) => tgs ts ds ρ1 μ1
    | none => none
  | _, _ => fun _ _ => none
def tgTup (ts : List Tg) : Tg := fun d ρ μ => match d with
  | .tup xs => tgs ts xs ρ μ
  | _ => none
def tgSub (fo fi : Cb D) : Tg := fun d ρ μ => match fo ρ μ with
  | some (.ok (.ref n) μ1) => match fi ρ μ1 with
    | some (.ok (.int i) μ2) => match μ2[n]? with
      | some (.lst xs) => match ixN xs.length i with
        | some j => if lamf d = true then some (ρ, μ2.set n (.lst (xs.set j d))) else none
        | none => none
      | _ => none
    | _ => none
  | _ => none
def cAsg (f : Cb D) (t : Tg) : Cs := fun ρ μ => obS (f ρ μ) ρ fun d μ1 => match t d ρ μ1 with
  | some (ρ2, μ2) => some (.nx ρ2 μ2)
  | none => none
def cAug (i : Nat) (o : Sto → D → D → Option (D × Sto)) (f : Cb D) : Cs := fun ρ μ => match ρ[i]? with
  | some (some x) => obS (f ρ μ) ρ fun y μ1 => match o μ1 x y with
    | some (z, μ2) => some (.nx (ρ.set i (some z)) μ2)
    | none => none
  | _ => none
def cRaise (c : Str) : Cs := fun ρ μ => some (.ex c ρ μ)
def wl (t : Cb Bool) (b : Cs) : Nat → Cs
  | 0 => fun _ _ => none
  | n + 1 => fun ρ μ => obS (t ρ μ) ρ fun c μ1 => if c = true then (match b ρ μ1 with
    | some (.nx ρ2 μ2) => wl t b n ρ2 μ2
    | some (.ct ρ2 μ2) => wl t b n ρ2 μ2
    | some (.bk ρ2 μ2) => some (.nx ρ2 μ2)
    | r => r) else some (.nx ρ μ1)
def cWhile (n : Nat) (t : Cb Bool) (b : Cs) : Cs := wl t b n
def fl (t : Tg) (b : Cs) : List D → Cs
  | [] => fun ρ μ => some (.nx ρ μ)
  | d :: ds => fun ρ μ => match t d ρ μ with
    | some (ρ1, μ1) => (match b ρ1 μ1 with
      | some (.nx ρ2 μ2) => fl t b ds ρ2 μ2
      | some (.ct ρ2 μ2) => fl t b ds ρ2 μ2
      | some (.bk ρ2 μ2) => some (.nx ρ2 μ2)
      | r => r)
    | none => none
def cFor (f : Cb (List D)) (t : Tg) (b : Cs) : Cs := fun ρ μ => obS (f ρ μ) ρ fun ds μ1 => fl t b ds ρ μ1

def PostS (g : Gb) (Λ : Lr) (W : WX) (ι : List Addr) (H : Hp) (r : SOut) (E : Ends) : Prop := match r with
  | .nx ρ' μ' => ∀ ι' H' σ', Ext ι H ι' H' → MR g Λ ι' H' μ' → LR g Λ ι' H' σ' ρ' → E.nx σ' H'
  | .rt d μ' => ∀ ι' H' v, Ext ι H ι' H' → MR g Λ ι' H' μ' → Rep g.K Λ ι' H' d v → E.rt v H'
  | .ex c ρ' μ' => ∀ ι' H' σ', Ext ι H ι' H' → MR g Λ ι' H' μ' → LR g Λ ι' H' σ' ρ' → W (.ref (g.cls c)) none σ' H'
  | .bk ρ' μ' => ∀ ι' H' σ', Ext ι H ι' H' → MR g Λ ι' H' μ' → LR g Λ ι' H' σ' ρ' → E.bk σ' H'
  | .ct ρ' μ' => ∀ ι' H' σ', Ext ι H ι' H' → MR g Λ ι' H' μ' → LR g Λ ι' H' σ' ρ' → E.ct σ' H'
def rdS (g : Gb) (Λ : Lr) (W : WX) (f : Cs) : TS := fun E σ H => ∃ ι ρ μ r, LR g Λ ι H σ ρ ∧ MR g Λ ι H μ ∧ f ρ μ = some r ∧ PostS g Λ W ι H r E
def DS (g : Gb) (k : Nat) (Λ : Lr) (X : Cx) (W : WX) (st : Stmt) (f : Cs) : Prop := XOk g k X → Takes X W → PS X st (rdS g Λ W f)
def DSs (g : Gb) (k : Nat) (Λ : Lr) (X : Cx) (W : WX) (st : List Stmt) (f : Cs) : Prop := XOk g k X → Takes X W → PSs X st (rdS g Λ W f)
theorem PS.imp {X : Cx} {e : Stmt} {t u : TS} (h : PS X e t) (i : ∀ σ H Q, u σ H Q → t σ H Q) : PS X e u := ⟨fun pins s σ H Q I q => h.run pins s σ H Q I (i Q σ H q)⟩
theorem PSs.imp {X : Cx} {e : List Stmt} {t u : TS} (h : PSs X e t) (i : ∀ σ H Q, u σ H Q → t σ H Q) : PSs X e u := ⟨fun pins s σ H Q I q => h.run pins s σ H Q I (i Q σ H q)⟩
def rdG (g : Gb) (Λ : Lr) (vs : List Nat) (t : Tg) : TG := fun v σ H Q => ∃ ι ρ μ d ρ' μ', LR g Λ ι H σ ρ ∧ MR g Λ ι H μ ∧ Rep g.K Λ ι H d v ∧ t d ρ μ = some (ρ', μ') ∧ ∀ ι' H' σ', Ext ι H ι' H' → MR g Λ ι' H' μ' → LR g Λ ι' H' σ' ρ' → wipe σ' vs = wipe σ vs → Q σ' H'
def DG (g : Gb) (k : Nat) (Λ : Lr) (X : Cx) (W : WX) (vs : List Nat) (tg : Expr) (t : Tg) : Prop := XOk g k X → Takes X W → PG X tg (rdG g Λ vs t)
def rdGs (g : Gb) (Λ : Lr) (vs : List Nat) (t : List Tg) : TGs := fun us σ H Q => ∃ ι ρ μ ds ρ' μ', LR g Λ ι H σ ρ ∧ MR g Λ ι H μ ∧ Reps g.K Λ ι H ds us ∧ tgs t ds ρ μ = some (ρ', μ') ∧ ∀ ι' H' σ', Ext ι H ι' H' → MR g Λ ι' H' μ' → LR g Λ ι' H' σ' ρ' → wipe σ' vs = wipe σ vs → Q σ' H'
def DGs (g : Gb) (k : Nat) (Λ : Lr) (X : Cx) (W : WX) (vs : List Nat) (tg : List Expr) (t : List Tg) : Prop := XOk g k X → Takes X W → PGs X tg (rdGs g Λ vs t)
theorem PG.imp {X : Cx} {e : Expr} {t u : TG} (h : PG X e t) (i : ∀ v σ H Q, u v σ H Q → t v σ H Q) : PG X e u := ⟨fun pins s σ H v uu Q I r q => h.run pins s σ H v uu Q I r (i v σ H Q q)⟩
theorem PGs.imp {X : Cx} {e : List Expr} {t u : TGs} (h : PGs X e t) (i : ∀ v σ H Q, u v σ H Q → t v σ H Q) : PGs X e u := ⟨fun pins s σ H v uu Q I r q => h.run pins s σ H v uu Q I r (i v σ H Q q)⟩

section
variable {g : Gb} {k : Nat} {Λ : Lr} {X : Cx} {W : WX}
section
variable {ι : List Addr} {H : Hp} {σ : St} {ρ : En} {μ : Sto} {r : SOut} {E : Ends}
theorem PostS.ext {ι' H'} (p : PostS g Λ W ι H r E) (e : Ext ι H ι' H') : PostS g Λ W ι' H' r E := by
  cases r with
  | nx _ _ => exact fun ι2 H2 v2 e2 => p ι2 H2 v2 (e.trans e2)
  | rt _ _ => exact fun ι2 H2 v2 e2 => p ι2 H2 v2 (e.trans e2)
  | ex _ _ _ => exact fun ι2 H2 v2 e2 => p ι2 H2 v2 (e.trans e2)
  | bk _ _ => exact fun ι2 H2 v2 e2 => p ι2 H2 v2 (e.trans e2)
  | ct _ _ => exact fun ι2 H2 v2 e2 => p ι2 H2 v2 (e.trans e2)
theorem goS_E {f : Cb D} {kk : D → Sto → Option SOut} {R : VK} (l : LR g Λ ι H σ ρ) (m : MR g Λ ι H μ) (h : obS (f ρ μ) ρ kk = some r) (p : PostS g Λ W ι H r E)
    (go : ∀ d μ1 ι1 H1 v, f ρ μ = some (.ok d μ1) → kk d μ1 = some r → Ext ι H ι1 H1 → MR g Λ ι1 H1 μ1 → LR g Λ ι1 H1 σ ρ → Rep g.K Λ ι1 H1 d v → R v H1) : rdE g Λ W f σ H R := by
  cases q : f ρ μ with
  | none => rw [q] at h; cases h
  | some o =>
    refine ⟨ι, ρ, μ, o, l, m, q, ?_⟩
    cases o with
    | ok d μ1 => rw [q] at h; exact fun ι1 H1 v e m1 r1 => go d μ1 ι1 H1 v q h e m1 (l.ext e) r1
    | exc c μ1 =>
      rw [q] at h
      cases (show some (SOut.ex c ρ μ1) = some r from h)
      exact fun ι' H' e m' => p ι' H' σ e m' (l.ext e)
theorem goS_T {f : Cb Bool} {kk : Bool → Sto → Option SOut} {R : Bool → Hp → Prop} (l : LR g Λ ι H σ ρ) (m : MR g Λ ι H μ) (h : obS (f ρ μ) ρ kk = some r) (p : PostS g Λ W ι H r E)
    (go : ∀ d μ1 ι1 H1, f ρ μ = some (.ok d μ1) → kk d μ1 = some r → Ext ι H ι1 H1 → MR g Λ ι1 H1 μ1 → LR g Λ ι1 H1 σ ρ → R d H1) : rdT g Λ W f σ H R := by
  cases q : f ρ μ with
  | none => rw [q] at h; cases h
  | some o =>
    refine ⟨ι, ρ, μ, o, l, m, q, ?_⟩
    cases o with
    | ok d μ1 => rw [q] at h; exact fun ι1 H1 e m1 => go d μ1 ι1 H1 q h e m1 (l.ext e)
    | exc c μ1 =>
      rw [q] at h
      cases (show some (SOut.ex c ρ μ1) = some r from h)
      exact fun ι' H' e m' => p ι' H' σ e m' (l.ext e)
theorem goS_A {f : Cb (List D)} {kk : List D → Sto → Option SOut} {R : List V → Hp → Prop} (l : LR g Λ ι H σ ρ) (m : MR g Λ ι H μ) (h : obS (f ρ μ) ρ kk = some r) (p : PostS g Λ W ι H r E)
    (go : ∀ ds μ1 ι1 H1 vs, f ρ μ = some (.ok ds μ1) → kk ds μ1 = some r → Ext ι H ι1 H1 → MR g Λ ι1 H1 μ1 → LR g Λ ι1 H1 σ ρ → Reps g.K Λ ι1 H1 ds vs → R vs H1) : rdA g Λ W f σ H R := by
  cases q : f ρ μ with
  | none => rw [q] at h; cases h
  | some o =>
    refine ⟨ι, ρ, μ, o, l, m, q, ?_⟩
    cases o with
    | ok d μ1 => rw [q] at h; exact fun ι1 H1 vs e m1 r1 => go d μ1 ι1 H1 vs q h e m1 (l.ext e) r1
    | exc c μ1 =>
      rw [q] at h
      cases (show some (SOut.ex c ρ μ1) = some r from h)
      exact fun ι' H' e m' => p ι' H' σ e m' (l.ext e)
end
variable {vs : List Nat} {a b c : Expr} {fa fb fc : Cb D} {pos pos' : Pos} {st : Stmt} {sts sts' : List Stmt} {f f1 f2 : Cs} {es : List Expr} {fs : Cb (List D)} {ta : Cb Bool}
theorem ds_stuck : DS g k Λ X W st cStuck := fun _ _ => ⟨fun _ _ _ _ _ _ ⟨_, _, _, _, _, _, e, _⟩ => by cases e⟩
theorem dss_nil : DSs g k Λ X W [] cNop := fun ok tk => PSs.imp pss_nil fun E σ H ⟨ι, ρ, μ, r, l, m, e, p⟩ => by cases e; exact p ι H σ (.refl _ _) m l
theorem dss_one (h : DS g k Λ X W st f) : DSs g k Λ X W [st] f := fun ok tk => pss_one (h ok tk)
theorem dss_cons (h : DS g k Λ X W st f1) (h2 : DSs g k Λ X W sts f2) : DSs g k Λ X W (st :: sts) (cSeq f1 f2) := fun ok tk => PSs.imp (pss_cons (h ok tk) (h2 ok tk)) fun E σ H ⟨ι, ρ, μ, r, l, m, e, p⟩ => by
  unfold cSeq at e
  split at e
  · rename_i ρ1 μ1 q
    exact ⟨ι, ρ, μ, _, l, m, q, fun ι1 H1 σ1 e1 m1 l1 => ⟨ι1, ρ1, μ1, r, l1, m1, e, p.ext e1⟩⟩
  · rename_i hn
    refine ⟨ι, ρ, μ, r, l, m, e, ?_⟩
    cases r with
    | nx ρ' μ' => exact absurd e (hn ρ' μ')
    | rt _ _ => exact p
    | ex _ _ _ => exact p
    | bk _ _ => exact p
    | ct _ _ => exact p
theorem ds_pass : DS g k Λ X W (.Pass pos) cNop := fun ok tk => PS.imp ps_pass fun E σ H ⟨ι, ρ, μ, r, l, m, e, p⟩ => by cases e; exact p ι H σ (.refl _ _) m l
theorem ds_expr (ha : DE g k Λ X W a fa) (hs : swapsWith a none pos.line X.env = pure false := by rfl) : DS g k Λ X W (.Expr a pos) (cExp fa) := fun ok tk => PS.imp (ps_expr (ha ok tk) hs) fun E σ H ⟨ι, ρ, μ, r, l, m, e, p⟩ =>
  goS_E l m e p fun d μ1 ι1 H1 v e1 e2 x1 m1 l1 r1 => by cases e2; exact p ι1 H1 σ x1 m1 l1
theorem ds_ret (ha : DE g k Λ X W a fa) : DS g k Λ X W (.Return (some a) pos) (cRet fa) := fun ok tk => PS.imp (ps_ret (ha ok tk)) fun E σ H ⟨ι, ρ, μ, r, l, m, e, p⟩ =>
  goS_E l m e p fun d μ1 ι1 H1 v e1 e2 x1 m1 l1 r1 => by cases e2; exact p ι1 H1 v x1 m1 r1
theorem ds_retN : DS g k Λ X W (.Return none pos) cRetN := fun ok tk => PS.imp ps_retN fun E σ H ⟨ι, ρ, μ, r, l, m, e, p⟩ => by cases e; exact p ι H .non (.refl _ _) m rfl
theorem ds_if (hc : DT g k Λ X W c ta) (h1 : DSs g k Λ X W sts f1) (h2 : DSs g k Λ X W sts' f2) : DS g k Λ X W (.If c sts sts' pos) (cIf ta f1 f2) := fun ok tk => PS.imp (ps_if (hc ok tk) (h1 ok tk) (h2 ok tk)) fun E σ H ⟨ι, ρ, μ, r, l, m, e, p⟩ =>
  goS_T l m e p fun d μ1 ι1 H1 e1 e2 x1 m1 l1 => by
    cases d with
    | true => exact ⟨ι1, ρ, μ1, r, l1, m1, e2, p.ext x1⟩
    | false => exact ⟨ι1, ρ, μ1, r, l1, m1, e2, p.ext x1⟩
theorem ds_set (i : Nat) {x : Str} (ha : DE g k Λ X W a fa) (hi : X.N[i]? = some x := by rfl) (hx : Loc X.env.scope x := by first | exact Or.inl rfl | exact Or.inr rfl) (hs : swapsWith a (some (.Name x pos')) pos.line X.env = pure false := by rfl) (hf : X.fn x = true ∨ X.env.scope.names.lookup x = some .local := by first | exact Or.inl rfl | exact Or.inr rfl) :
    DS g k Λ X W (.Assign [.Name x pos'] a pos) (cSet i fa) := fun ok tk => PS.imp (ps_set ok.nd hi hx (ha ok tk) hs hf) fun E σ H ⟨ι, ρ, μ, r, l, m, e, p⟩ =>
  goS_E l m e p fun d μ1 ι1 H1 v e1 e2 x1 m1 l1 r1 => by cases e2; exact p ι1 H1 _ x1 m1 (l1.set r1 i)
theorem ds_par2 (i j : Nat) {x y : Str} {px py pt pt2 : Pos} {kt k2 : Nat} (ha : DA g k Λ X W [a, b] fs) (hi : X.N[i]? = some x := by rfl) (hj : X.N[j]? = some y := by rfl) (hij : i ≠ j := by decide) (hx : X.env.scope.names.lookup x = some .local := by rfl) (hy : X.env.scope.names.lookup y = some .local := by rfl)
    (hw : swappedStores [.Tuple [.Name x px, .Name y py] kt pt] (.Tuple [a, b] k2 pt2) X.env = pure (some [x, y]) := by rfl) (hs : swapsWithSole [.Tuple [.Name x px, .Name y py] kt pt] (.Tuple [a, b] k2 pt2) pos.line X.env = pure false := by rfl) :
    DS g k Λ X W (.Assign [.Tuple [.Name x px, .Name y py] kt pt] (.Tuple [a, b] k2 pt2) pos) (cPar2 i j fs) := fun ok tk => PS.imp (ps_par ok.calm ok.nd hi hj hij hx hy (ha ok tk) hw hs) fun E σ H ⟨ι, ρ, μ, r, l, m, e, p⟩ =>
  goS_A l m e p fun ds μ1 ι1 H1 us e1 e2 x1 m1 l1 r1 => by
    split at e2
    · cases e2
      obtain ⟨v, u, rfl, rv, ru⟩ := r1.inv2
      exact ⟨v, u, rfl, p ι1 H1 _ x1 m1 ((l1.set rv i).set ru j)⟩
    · cases e2
theorem Reps.inv3 {K Λ ι H} {d e f : D} {vs : List V} (h : Reps K Λ ι H [d, e, f] vs) : ∃ v u w, vs = [v, u, w] ∧ Rep K Λ ι H d v ∧ Rep K Λ ι H e u ∧ Rep K Λ ι H f w := by
  obtain ⟨v, r, h1, h2, h3⟩ := h
  obtain ⟨u, w, q1, q2, q3⟩ := Reps.inv2 h3
  exact ⟨v, u, w, by rw [h1, q1], h2, q2, q3⟩
theorem ds_par3 (i j h : Nat) {x y z : Str} {px py pz pt pt2 : Pos} {kt k2 : Nat} (ha : DA g k Λ X W [a, b, c] fs) (hi : X.N[i]? = some x := by rfl) (hj : X.N[j]? = some y := by rfl) (hl : X.N[h]? = some z := by rfl) (hij : i ≠ j := by decide) (hil : i ≠ h := by decide) (hjl : j ≠ h := by decide)
    (hx : X.env.scope.names.lookup x = some .local := by rfl) (hy : X.env.scope.names.lookup y = some .local := by rfl) (hz : X.env.scope.names.lookup z = some .local := by rfl)
    (hw : swappedStores [.Tuple [.Name x px, .Name y py, .Name z pz] kt pt] (.Tuple [a, b, c] k2 pt2) X.env = pure (some [x, y, z]) := by rfl) (hs : swapsWithSole [.Tuple [.Name x px, .Name y py, .Name z pz] kt pt] (.Tuple [a, b, c] k2 pt2) pos.line X.env = pure false := by rfl) :
    DS g k Λ X W (.Assign [.Tuple [.Name x px, .Name y py, .Name z pz] kt pt] (.Tuple [a, b, c] k2 pt2) pos) (cPar3 i j h fs) := fun ok tk => PS.imp (ps_par3 ok.calm ok.nd hi hj hl hij hil hjl hx hy hz (ha ok tk) hw hs) fun E σ H ⟨ι, ρ, μ, r, l, m, e, p⟩ =>
  goS_A l m e p fun ds μ1 ι1 H1 us e1 e2 x1 m1 l1 r1 => by
    split at e2
    · cases e2
      obtain ⟨v, u, w, rfl, rv, ru, rw'⟩ := r1.inv3
      exact ⟨v, u, w, rfl, p ι1 H1 _ x1 m1 (((l1.set rv i).set ru j).set rw' h)⟩
    · cases e2
/-! targets -/
theorem wipe_set (σ : St) (i : Nat) (x : V) : ∀ vs : List Nat, (wipe (σ.set i (some x)) vs).set i none = (wipe σ vs).set i none
  | [] => by simp [wipe]
  | v :: vs => by
    unfold wipe
    by_cases e : v = i
    · subst e
      rw [List.set_set, List.set_set, wipe_set σ v x vs]
    · rw [List.set_comm _ _ e, List.set_comm _ _ e, wipe_set σ i x vs]
theorem wipe_at (σ : St) (i : Nat) (x : V) : ∀ vs : List Nat, i ∈ vs → wipe (σ.set i (some x)) vs = wipe σ vs
  | [], h => by cases h
  | v :: vs, h => by
    unfold wipe
    by_cases e : i = v
    · subst e
      by_cases h2 : i ∈ vs
      · rw [wipe_at σ i x vs h2]
      · exact wipe_set σ i x vs
    · rw [wipe_at σ i x vs ((List.mem_cons.mp h).resolve_left e)]
theorem dg_name (i : Nat) {x : Str} (hv : i ∈ vs := by decide) (hi : X.N[i]? = some x := by rfl) (hx : Loc X.env.scope x := by first | exact Or.inl rfl | exact Or.inr rfl) (hf : X.fn x = true ∨ X.env.scope.names.lookup x = some .local := by first | exact Or.inl rfl | exact Or.inr rfl) : DG g k Λ X W vs (.Name x pos) (tgName i) := fun ok tk =>
  PG.imp (pg_name ok.nd hi hx hf) fun v σ H Q ⟨ι, ρ, μ, d, ρ', μ', l, m, r, e, p⟩ => by
    cases e
    exact p ι H _ (.refl _ _) m (l.set r i) (wipe_at _ _ _ _ hv)
theorem dgs_nil : DGs g k Λ X W vs [] [] := fun ok tk => PGs.imp pgs_nil fun v σ H Q ⟨ι, ρ, μ, ds, ρ', μ', l, m, r, e, p⟩ => by
  cases ds with
  | nil => cases e; cases (show v = [] from r); exact ⟨rfl, p ι H σ (.refl _ _) m l rfl⟩
  | cons _ _ => cases e
theorem dgs_cons {t : Tg} {ts : List Tg} (h : DG g k Λ X W vs a t) (h2 : DGs g k Λ X W vs es ts) (hs : (assignEach (a :: es) X.env).map (·.2) = assign a X.env :: (assignEach es X.env).map (·.2) := by rfl) : DGs g k Λ X W vs (a :: es) (t :: ts) := fun ok tk =>
  PGs.imp (pgs_cons (h ok tk) (h2 ok tk) hs) fun v σ H Q ⟨ι, ρ, μ, ds, ρ', μ', l, m, r, e, p⟩ => by
    cases ds with
    | nil => cases e
    | cons d ds =>
      obtain ⟨v1, vr, rfl, r1, r2⟩ := r
      have e : (match t d ρ μ with | some (ρ1, μ1) => tgs ts ds ρ1 μ1 | none => none) = some (ρ', μ') := e
      split at e
      · rename_i ρ1 μ1 q
        exact ⟨v1, vr, rfl, ι, ρ, μ, d, ρ1, μ1, l, m, r1, q, fun ι1 H1 σ1 x1 m1 l1 w1 => ⟨ι1, ρ1, μ1, ds, ρ', μ', l1, m1, Reps.ext x1 ds r2, e, fun ι2 H2 σ2 x2 m2 l2 w2 => p ι2 H2 σ2 (x1.trans x2) m2 l2 (w2.trans w1)⟩⟩
      · cases e
theorem tgs_len : ∀ {ts : List Tg} {ds : List D} {ρ ρ' : En} {μ μ' : Sto}, tgs ts ds ρ μ = some (ρ', μ') → ds.length = ts.length
  | [], [], _, _, _, _, _ => rfl
  | [], _ :: _, _, _, _, _, h => by cases h
  | _ :: _, [], _, _, _, _, h => by cases h
  | t :: ts, d :: ds, ρ, _, μ, _, h => by
    have h : (match t d ρ μ with | some (ρ1, μ1) => tgs ts ds ρ1 μ1 | none => none) = some _ := h
    split at h
    · rw [List.length_cons, List.length_cons, tgs_len h]
    · cases h
theorem dg_tup {ts : List Tg} {kk : Nat} (h : DGs g k Λ X W vs es ts) (hn : (assignEach es X.env).length = ts.length := by rfl) (hst : (assignEach es X.env).findIdx? (·.1) = none := by rfl) : DG g k Λ X W vs (.Tuple es kk pos) (tgTup ts) := fun ok tk =>
  PG.imp (pg_tup ok.calm (h ok tk) hn hst) fun v σ H Q ⟨ι, ρ, μ, d, ρ', μ', l, m, r, e, p⟩ => by
    unfold tgTup at e
    split at e
    · rename_i xs
      obtain ⟨a, vs, rfl, h2, h3⟩ := r
      exact ⟨a, vs, rfl, by rw [ok.K]; exact h2.sq, by rw [← h3.len]; exact tgs_len e, ι, ρ, μ, xs, ρ', μ', l, m, h3, e, p⟩
    · cases e
/-- a list of the store changes -/
theorem MR.set {ι : List Addr} {H : Hp} {μ : Sto} (m : MR g Λ ι H μ) {n : Nat} {ad : Addr} {u : SO} (hn : μ[n]? = some u) (ha : ι[n]? = some ad) {ds : List D} {vs : List V} (lf : lamfs ds = true) (r : Reps g.K Λ ι H ds vs) :
    Ext ι H ι (upd H ad (.lst vs)) ∧ MR g Λ ι (upd H ad (.lst vs)) (μ.set n (.lst ds)) := by
  have hm : ad ∈ ι := List.mem_of_getElem? ha
  have e : Ext ι H ι (upd H ad (.lst vs)) := ⟨⟨[], by simp, by simp⟩, fun b o h _ ni => by rw [upd_ne (fun z => ni (by rw [z]; exact hm))]; exact h, fun b h o eo => by
    by_cases z : b = ad
    · rw [z] at h
      exact (h.no upd_same (by intro ps z; cases z)).elim
    · exact h o (by rw [upd_ne z]; exact eo)⟩
  have nt : ∀ p ps, H p = some (.tbl ps) → p ≠ ad := fun p ps h z => by
    rw [z] at h
    rcases m.mem hm with ⟨_, q⟩ | ⟨_, q⟩ | ⟨_, _, _, q⟩ <;> rw [h] at q <;> cases q
  have nc : ∀ p q, H p = some (LamX.CodeO p q) → p ≠ ad := fun p q h z => by
    rw [z] at h
    unfold LamX.CodeO at h
    rcases m.mem hm with ⟨_, q⟩ | ⟨_, q⟩ | ⟨_, _, _, q⟩ <;> rw [h] at q <;> cases q
  refine ⟨e, ⟨by simp [m.len], m.nd, fun i so q => ?_, fun t ht => ?_, fun b hb h => m.avs b hb (e.nt b h)⟩⟩
  · by_cases hi : n = i
    · subst hi
      have hl : n < μ.length := (List.getElem?_eq_some_iff.mp hn).1
      rw [List.getElem?_set_self hl] at q
      cases q
      exact ⟨ad, ha, ⟨vs, upd_same, Reps.ext e ds (Reps.lam (Λ := Λ) (Λ' := Λ.pure) rfl ds lf r)⟩⟩
    · rw [List.getElem?_set_ne hi] at q
      obtain ⟨b, h1, h2⟩ := m.ob i so q
      have hb : b ≠ ad := fun z => hi ((List.getElem?_inj (List.getElem?_eq_some_iff.mp ha).1 m.nd).mp (by rw [ha, h1, z]))
      exact ⟨b, h1, h2.ext' e fun o h _ => by rw [upd_ne hb]; exact h⟩
  · obtain ⟨ps, h1, h2, h3⟩ := m.tabs t ht
    refine ⟨ps, by rw [upd_ne (nt _ ps h1)]; exact h1, h2, fun ps2 cv hc => ?_⟩
    obtain ⟨c, e1, e2⟩ := h3 ps2 cv hc
    exact ⟨c, e1, by rw [upd_ne (nc _ _ e2)]; exact e2⟩
end
end Mi

set_option Elab.async false
set_option linter.all false
set_option maxRecDepth 100000
set_option maxHeartbeats 4000000
namespace Mi
open PySem L2
section
variable {g : Gb} {k : Nat} {Λ : Lr} {X : Cx} {W : WX} {vs : List Nat} {a b c tg : Expr} {fa fb fc fo fi : Cb D} {pos pos' : Pos} {st : Stmt} {sts sts' : List Stmt} {f f1 f2 : Cs} {es : List Expr} {fs : Cb (List D)} {ta : Cb Bool} {t : Tg}
theorem lamfs_set {d : D} (h : lamf d = true) : ∀ {xs : List D} {j : Nat}, lamfs xs = true → lamfs (xs.set j d) = true
  | [], _, _ => rfl
  | x :: xs, 0, q => by
    simp only [lamfs, Bool.and_eq_true] at q
    simp only [List.set, lamfs, Bool.and_eq_true]
    exact ⟨h, q.2⟩
  | x :: xs, j + 1, q => by
    simp only [lamfs, Bool.and_eq_true] at q
    simp only [List.set, lamfs, Bool.and_eq_true]
    exact ⟨q.1, lamfs_set h q.2⟩
mutual
theorem pure_lamf {K : PySem.W.Frag} {Λ : Lr} {ι : List Addr} {H : Hp} : ∀ {d : D} {v : V}, Rep K Λ.pure ι H d v → lamf d = true
  | .non, _, _ => rfl
  | .bl _, _, _ => rfl
  | .int _, _, _ => rfl
  | .str _, _, _ => rfl
  | .tup xs, _, ⟨_, _, _, _, h⟩ => pure_lamfs h
  | .lst xs, _, ⟨_, _, _, _, h⟩ => pure_lamfs h
  | .dct ks xs, _, ⟨_, _, _, _, _, _, h⟩ => pure_lamfs h
  | .ref _, _, _ => rfl
  | .lam _, _, ⟨_, _, _, _, _, _, _, _, _, _, h⟩ => h.elim
  | .scr _, _, _ => rfl
theorem pure_lamfs {K : PySem.W.Frag} {Λ : Lr} {ι : List Addr} {H : Hp} : ∀ {ds : List D} {vs : List V}, Reps K Λ.pure ι H ds vs → lamfs ds = true
  | [], _, _ => rfl
  | d :: ds, _, ⟨_, _, _, h1, h2⟩ => by
    simp only [lamfs, Bool.and_eq_true]
    exact ⟨pure_lamf h1, pure_lamfs h2⟩
end
theorem dg_sub (ho : DE g k Λ X W a fo) (hi : DE g k Λ X W b fi) (hs : ∀ v, assign (.Subscript a b pos) X.env v = (do
      let ov ← holding [v] (eval a X.env)
      let iv ← holding [v, ov] (eval b X.env)
      standAt pos
      holding [v, ov, iv] (setItem ov iv v)
      release [v, ov, iv] []) := by intro _; rfl) : DG g k Λ X W vs (.Subscript a b pos) (tgSub fo fi) := fun ok tk =>
  PG.imp (pg_sub (ho ok tk) (hi ok tk) set_list hs) fun v σ H Q ⟨ι, ρ, μ, d, ρ', μ', l, m, r, e, p⟩ => by
    unfold tgSub at e
    split at e
    · rename_i n μ1 q1
      refine ⟨ι, ρ, μ, _, l, m, q1, fun ι1 H1 v1 x1 m1 r1 => ?_⟩
      split at e
      · rename_i i μ2 q2
        refine ⟨ι1, ρ, μ1, _, l.ext x1, m1, q2, fun ι2 H2 v2 x2 m2 r2 => ?_⟩
        split at e
        · rename_i xs q3
          split at e
          · rename_i j q4
            split at e
            · rename_i hl
              cases e
              obtain ⟨ad, rfl, ha⟩ := Rep.ext x2 (.ref n) r1
              cases r2
              obtain ⟨ad', h1, us, h2, h3⟩ := m2.ob n _ q3
              rw [ha] at h1
              cases h1
              have rs : Reps g.K Λ ι2 H2 (xs.set j d) (us.set j v) := Reps.set j (Reps.of_pure _ h3) (Rep.ext (x1.trans x2) d r)
              have lf : lamfs (xs.set j d) = true := lamfs_set hl (pure_lamfs h3)
              obtain ⟨y1, y2⟩ := m2.set q3 ha lf rs
              exact ⟨ad, us, i, j, rfl, rfl, h2, by rw [← h3.len]; exact q4, p ι2 _ σ ((x1.trans x2).trans y1) y2 (l.ext ((x1.trans x2).trans y1)) rfl⟩
            · cases e
          · cases e
        · cases e
      · cases e
    · cases e
theorem ds_asg (ha : DE g k Λ X W a fa) (ht : DG g k Λ X W vs tg t) (hs : swapsWithSole [tg] a pos.line X.env = pure false := by rfl) (hw : swappedStores [tg] a X.env = pure none := by rfl) (h1 : (assignEach [tg] X.env).map (·.2) = [assign tg X.env] := by rfl) :
    DS g k Λ X W (.Assign [tg] a pos) (cAsg fa t) := fun ok tk => PS.imp (ps_asg (ha ok tk) (ht ok tk) hs hw h1) fun E σ H ⟨ι, ρ, μ, r, l, m, e, p⟩ =>
  goS_E l m e p fun d μ1 ι1 H1 v e1 e2 x1 m1 l1 r1 => by
    split at e2
    · rename_i ρ2 μ2 q
      cases e2
      exact ⟨ι1, ρ, μ1, d, ρ2, μ2, l1, m1, r1, q, fun ι2 H2 σ2 x2 m2 l2 _ => p ι2 H2 σ2 (x1.trans x2) m2 l2⟩
    · cases e2
/-! op= -/
def DIp (g : Gb) (k : Nat) (Λ : Lr) (op : Operator) (o : Sto → D → D → Option (D × Sto)) : Prop := ∀ X, XOk g k X → PIp X op (fun x y H Q => ∃ ι μ a b d μ', MR g Λ ι H μ ∧ Rep g.K Λ ι H a x ∧ Rep g.K Λ ι H b y ∧ o μ a b = some (d, μ') ∧
  ∀ ι' H' v, Ext ι H ι' H' → MR g Λ ι' H' μ' → Rep g.K Λ ι' H' d v → Q v H')
def dIAdd (μ : Sto) (a b : D) : Option (D × Sto) := match a, b with
  | .int i, .int j => some (.int (i + j), μ)
  | .ref n, b => match μ[n]? with
    | some (.lst xs) => match vw μ b with
      | some ys => if xs.length + ys.length ≤ 16777216 ∧ lamfs (xs ++ ys) = true then some (.ref n, μ.set n (.lst (xs ++ ys))) else none
      | none => none
    | _ => none
  | .str x, .str y => if x.length + y.length ≤ 16777216 then some (.str (x ++ y), μ) else none
  | _, _ => none
def dISub (μ : Sto) (a b : D) : Option (D × Sto) := match a, b with
  | .int i, .int j => some (.int (i - j), μ)
  | _, _ => none
theorem iop_extR {X : Cx} : PIp X .Add (fun x y H Q => ∃ l b xs zs, x = .ref l ∧ y = .ref b ∧ H l = some (.lst xs) ∧ Rd H b (.lst zs) ∧ xs.length + zs.length ≤ sizeLine ∧ Q (.ref l) (upd H l (.lst (xs ++ zs)))) := by
  intro pins s σ H x y v u Q I rx ry ⟨l, b, xs, zs, e1, e2, hH, hB, hz, q⟩
  subst e1 e2
  cases rx
  cases ry
  obtain ⟨z, its, n, r, hl, e⟩ := I.lstM hH
  obtain ⟨z2, its2, n2, r2, hl2, e2⟩ := lstR I hB
  have hsz : its.toArray.size + its2.toArray.size ≤ sizeLine := by
    rw [List.size_toArray, List.size_toArray, ← hl, ← hl2]
    exact hz
  have hlong : ¬ (!its.toArray.isEmpty && Builtin.List.listTooLong (its.toArray.size + its2.toArray.size)) = true := by
    rw [notLongL hsz, Bool.and_false]
    decide
  refine iadd_road ⟨_, e, rfl⟩ ⟨_, e2, rfl⟩ (call_meets PySem.F.slot_list_iadd ⟨_, e, rfl⟩ PySem.F.entry_list_iadd (PySem.F.args_list_iadd_2 _ _)
    (AutoSeq1.list___iadd___list_list_0 l its.toArray n b its2.toArray n2 hlong (by rw [List.size_toArray]; omega) (Nat.le_succ_of_le hsz)) ⟨e, e2, ?_⟩)
  exact ⟨.ref l, _, I.lset (its' := its ++ its2) (t' := s.toks) hH e (by simp) (r.append r2) (by rw [List.length_append]; omega), rfl, q⟩
theorem dip_sub : DIp g k Λ .Sub dISub := by
  intro X ok pins s σ H x y v u Q I rx ry ⟨ι, μ, a, b, d, μ', m, ra, rb, e, q⟩
  unfold dISub at e
  split at e
  · cases e; cases ra; cases rb
    exact ip_sub pins s σ H _ _ v u Q I rx ry ⟨_, _, rfl, rfl, q ι H _ (.refl _ _) m rfl⟩
  · cases e
theorem dip_add : DIp g k Λ .Add dIAdd := by
  intro X ok pins s σ H x y v u Q I rx ry ⟨ι, μ, a, b, d, μ', m, ra, rb, e, q⟩
  unfold dIAdd at e
  split at e
  · cases e; cases ra; cases rb
    exact ip_add pins s σ H _ _ v u Q I rx ry ⟨_, _, rfl, rfl, q ι H _ (.refl _ _) m rfl⟩
  · split at e
    · rename_i xs q3
      split at e
      · rename_i ys hy
        split at e
        · rename_i hl
          cases e
          obtain ⟨ad, rfl, ha⟩ := ra
          obtain ⟨ad', h1, us, h2, h3⟩ := m.ob _ _ q3
          rw [ha] at h1
          cases h1
          obtain ⟨l2, ws, rfl, h4, h5⟩ := vw_rd m rb hy
          obtain ⟨y1, y2⟩ := m.set q3 ha hl.2 ((Reps.of_pure _ h3).app h5)
          refine iop_extR pins s σ H _ _ v u Q I rx ry ⟨ad, l2, us, ws, rfl, rfl, h2, h4, szl_le (by rw [← h3.len, ← h5.len]; exact hl.1), q ι _ _ y1 y2 ⟨ad, rfl, ha⟩⟩
        · cases e
      · cases e
    · cases e
  · split at e
    · rename_i hz
      cases e; cases ra; cases rb
      exact iop_add_str pins s σ H _ _ v u Q I rx ry ⟨_, _, rfl, rfl, szl_le hz, q ι H _ (.refl _ _) m rfl⟩
    · cases e
  · cases e
theorem ds_aug (i : Nat) {x : Str} {op : Operator} {o : Sto → D → D → Option (D × Sto)} (ho : DIp g k Λ op o) (ha : DE g k Λ X W a fa) (hi : X.N[i]? = some x := by rfl) (hx : Loc X.env.scope x := by first | exact Or.inl rfl | exact Or.inr rfl) (hf : X.fn x = true ∨ X.env.scope.names.lookup x = some .local := by first | exact Or.inl rfl | exact Or.inr rfl) :
    DS g k Λ X W (.AugAssign (.Name x pos') op a pos) (cAug i o fa) := fun ok tk => PS.imp (ps_aug ok.nd hi hx (ha ok tk) (ho X ok) hf) fun E σ H ⟨ι, ρ, μ, r, l, m, e, p⟩ => by
  unfold cAug at e
  split at e
  · rename_i d q
    obtain ⟨v, h1, h2⟩ := l.at_ i d q
    refine ⟨v, h1, goS_E l m e p fun d2 μ1 ι1 H1 v2 e1 e2 x1 m1 l1 r1 => ?_⟩
    split at e2
    · rename_i z μ2 q2
      cases e2
      exact ⟨ι1, μ1, d, d2, z, μ2, m1, Rep.ext x1 d h2, r1, q2, fun ι2 H2 v3 x2 m2 r2 => p ι2 H2 _ (x1.trans x2) m2 ((l1.ext x2).set r2 i)⟩
    · cases e2
  · cases e
/-- an own exception of the module -/
structure EC (g : Gb) (x : Str) : Prop where
  xP : PySem.W.excIn g.K (g.cls x) [.type "ValueError", .type "Exception", .type "BaseException", .type "object"] "ValueError.__new__" = true
  gP : g.mg x = some (.ref (g.cls x))
  kP : PySem.W.keepIn g.K (.ref (g.cls x)) = true
  bP : PySem.W.subIn g.K (.ref (g.cls x)) (.type "BaseException") = some true
  tP : PySem.W.typeIn g.K (.ref (g.cls x)) = some (.type "type")
theorem ds_raise {x m : Str} {j : Nat} {p1 p2 p3 : Pos} (ec : EC g x) (hg : Gl X x := by rfl) (hdb : (x == ("__debug__" : Str)) = false := by decide) :
    DS g k Λ X W (.Raise (some (.Call (.Name x p1) [.Constant (.str m) j p2] [] p3)) none pos) (cRaise x) := fun ok tk => by
  have h1 : PySem.W.excIn X.K (g.cls x) [.type "ValueError", .type "Exception", .type "BaseException", .type "object"] "ValueError.__new__" = true := by rw [ok.K]; exact ec.xP
  have h2 : X.mg x = some (.ref (g.cls x)) := by rw [ok.mg]; exact ec.gP
  have h3 : PySem.W.keepIn X.K (.ref (g.cls x)) = true := by rw [ok.K]; exact ec.kP
  have h4 : PySem.W.subIn X.K (.ref (g.cls x)) (.type "BaseException") = some true := by rw [ok.K]; exact ec.bP
  have h5 : PySem.W.typeIn X.K (.ref (g.cls x)) = some (.type "type") := by rw [ok.K]; exact ec.tP
  refine PS.imp (ps_raise (W := W) ok.calm tk (pmk_own PySem.F.excBase_ValueError h1 h2 h3 (raises_own h4 h5) hg hdb)) fun E σ H ⟨ι, ρ, μ, r, l, m, e, p⟩ => ?_
  cases e
  exact p ι H σ (.refl _ _) m l
/-! loops -/
theorem ds_while (n : Nat) (hc : DT g k Λ X W c ta) (hb : DSs g k Λ X W sts f) : DS g k Λ X W (.While c sts [] pos) (cWhile n ta f) := fun ok tk => PS.imp (ps_while ok.po (hc ok tk) (hb ok tk)) fun E σ H ⟨ι, ρ, μ, r, l, m, e, p⟩ => by
  refine ⟨fun i σ' H' => ∃ ι' ρ' μ', LR g Λ ι' H' σ' ρ' ∧ MR g Λ ι' H' μ' ∧ wl ta f i ρ' μ' = some r ∧ Ext ι H ι' H', ⟨n, ι, ρ, μ, l, m, e, .refl _ _⟩, ?_⟩
  intro i σ1 H1 ⟨ι1, ρ1, μ1, l1, m1, e1, x1⟩
  cases i with
  | zero => cases e1
  | succ i =>
    refine goS_T l1 m1 e1 (p.ext x1) fun b μ2 ι2 H2 e2 e3 x2 m2 l2 => ?_
    have p2 := (p.ext x1).ext x2
    cases b with
    | false => cases e3; exact p2 ι2 H2 σ1 (.refl _ _) m2 l2
    | true =>
      rw [if_pos rfl]
      refine ⟨fun σ' H' => ∃ ι' ρ' μ', LR g Λ ι' H' σ' ρ' ∧ MR g Λ ι' H' μ' ∧ wl ta f i ρ' μ' = some r ∧ Ext ι H ι' H', fun σ' H' h => ⟨i, Nat.lt_succ_self i, h⟩, ?_⟩
      rw [if_pos rfl] at e3
      cases q : f ρ1 μ2 with
      | none => rw [q] at e3; cases e3
      | some o =>
        refine ⟨ι2, ρ1, μ2, o, l2, m2, q, ?_⟩
        rw [q] at e3
        cases o with
        | nx ρ3 μ3 => exact fun ι3 H3 σ3 x3 m3 l3 => ⟨ι3, ρ3, μ3, l3, m3, e3, (x1.trans x2).trans x3⟩
        | ct ρ3 μ3 => exact fun ι3 H3 σ3 x3 m3 l3 => ⟨ι3, ρ3, μ3, l3, m3, e3, (x1.trans x2).trans x3⟩
        | bk ρ3 μ3 => cases e3; exact fun ι3 H3 σ3 x3 m3 l3 => p2 ι3 H3 σ3 x3 m3 l3
        | rt d μ3 => cases e3; exact p2
        | ex c ρ3 μ3 => cases e3; exact p2
/-! what is walked -/
def Itk (g : Gb) (Λ : Lr) (ι : List Addr) (H : Hp) (J : It) (ds : List D) : Prop :=
  ∀ Λ' : Lr, (∀ d v, Rep g.K Λ ι H d v → Rep g.K Λ' ι H d v) → ∀ ι2 H2 μ2, Ext ι H ι2 H2 → MR g Λ' ι2 H2 μ2 → ∀ i : Nat, (ds.length ≤ i → J.stop i H2) ∧ ∀ d, ds[i]? = some d → J.go i H2 ∧ ∀ x H3, J.yld i H2 x H3 → Sam H2 H3 ∧ Rep g.K Λ' ι2 H3 d x
def rdI (g : Gb) (Λ : Lr) (W : WX) (f : Cb (List D)) : TI := fun σ H R => ∃ ι ρ μ r, LR g Λ ι H σ ρ ∧ MR g Λ ι H μ ∧ f ρ μ = some r ∧
  match r with
  | .ok ds μ' => ∀ ι' H' J, Ext ι H ι' H' → MR g Λ ι' H' μ' → Itk g Λ ι' H' J ds → R J H'
  | .exc c μ' => ∀ ι' H', Ext ι H ι' H' → MR g Λ ι' H' μ' → W (.ref (g.cls c)) none σ H'
def DI (g : Gb) (k : Nat) (Λ : Lr) (X : Cx) (W : WX) (tg iter : Expr) (f : Cb (List D)) : Prop := XOk g k X → Takes X W → PI X tg iter (rdI g Λ W f)
theorem PI.imp {X : Cx} {tg e : Expr} {t u : TI} (h : PI X tg e t) (i : ∀ σ H Q, u σ H Q → t σ H Q) : PI X tg e u := ⟨fun pins s σ H Q I q => h.run pins s σ H Q I (i σ H Q q)⟩
theorem goI_E {β : Type} {ι : List Addr} {H : Hp} {σ : St} {ρ : En} {μ : Sto} {f : Cb D} {kk : D → Sto → Option (Out (List D))} {r : Out (List D)} {R : VK} (l : LR g Λ ι H σ ρ) (m : MR g Λ ι H μ) (h : ob (f ρ μ) kk = some r)
    (px : match r with
      | .exc c μ' => ∀ ι' H', Ext ι H ι' H' → MR g Λ ι' H' μ' → W (.ref (g.cls c)) none σ H'
      | _ => True)
    (go : ∀ d μ1 ι1 H1 v, f ρ μ = some (.ok d μ1) → kk d μ1 = some r → Ext ι H ι1 H1 → MR g Λ ι1 H1 μ1 → LR g Λ ι1 H1 σ ρ → Rep g.K Λ ι1 H1 d v → R v H1) : rdE g Λ W f σ H R :=
  go_E (X1 := True) l m h (fun c μ1 e => by subst e; exact px) go
/-- a list, a tuple -/
def bItems (f : Cb D) : Cb (List D) := fun ρ μ => ob (f ρ μ) fun d μ1 => match d with
  | .lst xs => some (.ok xs μ1)
  | .tup xs => some (.ok xs μ1)
  | _ => none
theorem pi_sq {l : Expr} {tl : TE} (hl : PE X l tl) : PI X tg l (fun σ H R => tl σ H fun x H1 => (∃ a, x = .ref a ∧ (∃ xs, SqL X.K H1 a xs) ∧ R (Itl X.K a) H1) ∨ (∃ a, x = .ref a ∧ (∃ xs, SqT X.K H1 a xs) ∧ R (Itt X.K a) H1)) := by
  refine ⟨fun pins s σ H R I h => ?_⟩
  refine thn (hl.run pins s σ H _ I h) fun v s1 ⟨x, H1, I1, r1, q1⟩ => ?_
  rcases q1 with ⟨a, e, ⟨xs, hq⟩, q⟩ | ⟨a, e, ⟨xs, hq⟩, q⟩
  · subst e
    cases r1
    obtain ⟨its, rv, p, hz⟩ := I1.list hq
    refine wpAny_pyIter_list p.isList ⟨s1.heap.objs.size, [s1.heap.objs.size], _, _, H1, rfl, I1.kept (t' := s1.toks) fun b o e => Heap.get?_push_of_some _ e, turn_list a _, ⟨_, Heap.get?_push_size _ rfl, rfl, rfl⟩, fun b hb => ?_, q⟩
    rw [show b = s1.heap.objs.size by simpa using hb]
    exact I1.fpOk (Nat.le_refl _) (I1.hok.fresh (Nat.le_refl _))
  · subst e
    cases r1
    obtain ⟨its, rv, p, hz⟩ := I1.tuple hq
    refine wpAny_pyIter_tuple (show s1.heap.IsTuple a its.toArray from p) ⟨s1.heap.objs.size, [s1.heap.objs.size], _, _, H1, rfl, I1.kept (t' := s1.toks) fun b o e => Heap.get?_push_of_some _ e, turn_tuple a _, ⟨_, Heap.get?_push_size _ rfl, rfl, rfl⟩, fun b hb => ?_, q⟩
    rw [show b = s1.heap.objs.size by simpa using hb]
    exact I1.fpOk (Nat.le_refl _) (I1.hok.fresh (Nat.le_refl _))
theorem di_sq (ha : DE g k Λ X W a fa) : DI g k Λ X W tg a (bItems fa) := fun ok tk => PI.imp (pi_sq (ha ok tk)) fun σ H R ⟨ι, ρ, μ, r, l, m, e, p⟩ =>
  goI_E (β := D) l m e (by cases r with | ok _ _ => trivial | exc _ _ => exact p) fun d μ1 ι1 H1 v e1 e2 x1 m1 l1 r1 => by
    split at e2
    · rename_i xs
      cases e2
      obtain ⟨ad, us, rfl, h2, h3⟩ := r1
      refine .inl ⟨ad, rfl, ⟨us, by rw [ok.K]; exact .inl h2.1⟩, p ι1 H1 _ x1 m1 fun Λ' hΛ ι2 H2 μ2 x2 m2 i => ?_⟩
      have h4 : Rep g.K Λ' ι2 H2 (.lst xs) (.ref ad) := Rep.ext x2 (.lst xs) (hΛ _ _ ⟨ad, us, rfl, h2, h3⟩)
      obtain ⟨ad2, ws, z, h5, h6⟩ := h4
      cases z
      refine ⟨fun hi => ⟨ws, .inl h5.1, by rw [← h6.len]; exact hi⟩, fun d hd => ?_⟩
      obtain ⟨y, hy, ry⟩ := h6.get hd
      exact ⟨⟨ws, y, .inl h5.1, hy⟩, fun x H3 ⟨e3, hx⟩ => by
        rw [e3]
        have := hx ws (.inl h5.1)
        rw [hy] at this
        cases this
        exact ⟨fun _ _ h => h, ry⟩⟩
    · rename_i xs
      cases e2
      obtain ⟨ad, us, rfl, h2, h3⟩ := r1
      refine .inr ⟨ad, rfl, ⟨us, by rw [ok.K]; exact h2.sq⟩, p ι1 H1 _ x1 m1 fun Λ' hΛ ι2 H2 μ2 x2 m2 i => ?_⟩
      have h4 : Rep g.K Λ' ι2 H2 (.tup xs) (.ref ad) := Rep.ext x2 (.tup xs) (hΛ _ _ ⟨ad, us, rfl, h2, h3⟩)
      obtain ⟨ad2, ws, z, h5, h6⟩ := h4
      cases z
      refine ⟨fun hi => ⟨ws, by rw [ok.K]; exact h5.sq, by rw [← h6.len]; exact hi⟩, fun d hd => ?_⟩
      obtain ⟨y, hy, ry⟩ := h6.get hd
      exact ⟨⟨ws, y, by rw [ok.K]; exact h5.sq, hy⟩, fun x H3 ⟨e3, hx⟩ => by
        rw [e3]
        have := hx ws (by rw [ok.K]; exact h5.sq)
        rw [hy] at this
        cases this
        exact ⟨fun _ _ h => h, ry⟩⟩
    · cases e2
/-- range -/
def rngD (lo : Int) (n : Nat) : List D := (List.range n).map fun i => .int (lo + (i : Nat))
def bRng1 (f : Cb (List D)) : Cb (List D) := fun ρ μ => ob (f ρ μ) fun ds μ1 => match ds with
  | [.int j] => if -4611686018427387904 ≤ j ∧ j < 4611686018427387904 then some (.ok (rngD 0 j.toNat) μ1) else none
  | _ => none
def bRng2 (f : Cb (List D)) : Cb (List D) := fun ρ μ => ob (f ρ μ) fun ds μ1 => match ds with
  | [.int i, .int j] => if (-4611686018427387904 ≤ i ∧ i < 4611686018427387904) ∧ -4611686018427387904 ≤ j ∧ j < 4611686018427387904 then some (.ok (rngD i (j - i).toNat) μ1) else none
  | _ => none
theorem itk_rng {ι : List Addr} {H : Hp} (lo : Int) (n : Nat) : Itk g Λ ι H (Itr lo n) (rngD lo n) := fun Λ' _ ι2 H2 μ2 _ _ i => by
  have hl : (rngD lo n).length = n := by unfold rngD; simp
  refine ⟨fun h => by rw [hl] at h; exact h, fun d hd => ?_⟩
  have hi : i < n := by
    have := (List.getElem?_eq_some_iff.mp hd).1
    rw [hl] at this; exact this
  refine ⟨hi, fun x H3 ⟨e1, e2⟩ => ?_⟩
  rw [e1, e2]
  unfold rngD at hd
  rw [List.getElem?_map, List.getElem?_range hi] at hd
  cases hd
  exact ⟨fun _ _ h => h, rfl⟩
theorem goI_A {ι : List Addr} {H : Hp} {σ : St} {ρ : En} {μ : Sto} {f : Cb (List D)} {kk : List D → Sto → Option (Out (List D))} {r : Out (List D)} {R : List V → Hp → Prop} (l : LR g Λ ι H σ ρ) (m : MR g Λ ι H μ) (h : ob (f ρ μ) kk = some r)
    (px : match r with
      | .exc c μ' => ∀ ι' H', Ext ι H ι' H' → MR g Λ ι' H' μ' → W (.ref (g.cls c)) none σ H'
      | _ => True)
    (go : ∀ d μ1 ι1 H1 v, f ρ μ = some (.ok d μ1) → kk d μ1 = some r → Ext ι H ι1 H1 → MR g Λ ι1 H1 μ1 → LR g Λ ι1 H1 σ ρ → Reps g.K Λ ι1 H1 d v → R v H1) : rdA g Λ W f σ H R :=
  go_A l m h (fun c μ1 e => by subst e; exact px) go
theorem di_rng1 {p : Pos} (hm : g.mg "range" = none) (ha : DA g k Λ X W [a] fs) (hg : Gl X "range" := by rfl) (hs : starEach [a] X.env = [(false, eval a X.env)] := by rfl) : DI g k Λ X W tg (.Call (.Name "range" p) [a] [] pos) (bRng1 fs) := fun ok tk =>
  PI.imp (pi_range1 hg (by rw [ok.mg]; exact hm) (ha ok tk) hs) fun σ H R ⟨ι, ρ, μ, r, l, m, e, p⟩ => goI_A l m e (by cases r with | ok _ _ => trivial | exc _ _ => exact p) fun ds μ1 ι1 H1 us e1 e2 x1 m1 l1 r1 => by
    split at e2
    · split at e2
      · rename_i hj
        cases e2
        obtain ⟨v, rfl, rv⟩ := r1.inv1
        cases rv
        exact ⟨_, rfl, by omega, by omega, p ι1 H1 _ x1 m1 (itk_rng _ _)⟩
      · cases e2
    · cases e2
theorem di_rng2 {p : Pos} (hm : g.mg "range" = none) (ha : DA g k Λ X W [a, b] fs) (hg : Gl X "range" := by rfl) (hs : starEach [a, b] X.env = [(false, eval a X.env), (false, eval b X.env)] := by rfl) (hs2 : starEach [b] X.env = [(false, eval b X.env)] := by rfl) : DI g k Λ X W tg (.Call (.Name "range" p) [a, b] [] pos) (bRng2 fs) := fun ok tk =>
  PI.imp (pi_range2 hg (by rw [ok.mg]; exact hm) (ha ok tk) hs hs2) fun σ H R ⟨ι, ρ, μ, r, l, m, e, p⟩ => goI_A l m e (by cases r with | ok _ _ => trivial | exc _ _ => exact p) fun ds μ1 ι1 H1 us e1 e2 x1 m1 l1 r1 => by
    split at e2
    · split at e2
      · rename_i hj
        cases e2
        obtain ⟨v, u, rfl, rv, ru⟩ := r1.inv2
        cases rv; cases ru
        exact ⟨_, _, rfl, ⟨by omega, by omega, by omega, by omega⟩, p ι1 H1 _ x1 m1 (itk_rng _ _)⟩
      · cases e2
    · cases e2
theorem ds_for {fit : Cb (List D)} (hi : DI g k Λ X W tg c fit) (ht : DG g k Λ X W vs tg t) (hb : DSs g k Λ X W sts f) (hs : ∀ x, foldedSetIterable c X.env x = pure x := by intro _; rfl) : DS g k Λ X W (.For tg c sts [] pos) (cFor fit t f) := fun ok tk =>
  PS.imp (ps_for ok.po ok.calm (hi ok tk) (ht ok tk) (hb ok tk) hs) fun E σ H ⟨ι, ρ, μ, r, l, m, e, p⟩ => by
    have e : obS (fit ρ μ) ρ (fun ds μ1 => fl t f ds ρ μ1) = some r := e
    cases q : fit ρ μ with
    | none => rw [q] at e; cases e
    | some o =>
      refine ⟨ι, ρ, μ, o, l, m, q, ?_⟩
      rw [q] at e
      cases o with
      | exc c μ1 => cases e; exact fun ι' H' x m' => p ι' H' σ x m' (l.ext x)
      | ok ds μ1 =>
        intro ι1 H1 J x1 m1 it
        have e : fl t f ds ρ μ1 = some r := e
        refine ⟨fun i n σ2 H2 => ∃ ι2 ρ2 μ2, i ≤ ds.length ∧ n = ds.length - i ∧ LR g Λ ι2 H2 σ2 ρ2 ∧ MR g Λ ι2 H2 μ2 ∧ fl t f (ds.drop i) ρ2 μ2 = some r ∧ Ext ι1 H1 ι2 H2, ⟨_, ι1, ρ, μ1, Nat.zero_le _, rfl, l.ext x1, m1, e, .refl _ _⟩, ?_⟩
        intro i n σ2 H2 ⟨ι2, ρ2, μ2, hi, hn, l2, m2, e2, x2⟩
        obtain ⟨stop, go⟩ := it Λ (fun _ _ h => h) ι2 H2 μ2 x2 m2 i
        have p2 := (p.ext x1).ext x2
        by_cases hl : ds.length ≤ i
        · rw [List.drop_of_length_le hl] at e2
          cases e2
          exact .inl ⟨stop hl, p2 ι2 H2 σ2 (.refl _ _) m2 l2⟩
        · have hlt : i < ds.length := by omega
          obtain ⟨g1, g2⟩ := go ds[i] (List.getElem?_eq_getElem hlt)
          rw [List.drop_eq_getElem_cons hlt] at e2
          refine .inr ⟨g1, fun σ3 H3 => ∃ ι3 ρ3 μ3, LR g Λ ι3 H3 σ3 ρ3 ∧ MR g Λ ι3 H3 μ3 ∧ fl t f (ds.drop (i + 1)) ρ3 μ3 = some r ∧ Ext ι1 H1 ι3 H3, fun σ3 H3 ⟨ι3, ρ3, μ3, l3, m3, e3, x3⟩ => ⟨ds.length - (i + 1), by omega, ι3, ρ3, μ3, by omega, rfl, l3, m3, e3, x3⟩, fun x H3 hy => ?_⟩
          obtain ⟨sm, rx⟩ := g2 x H3 hy
          have x3 : Ext ι2 H2 ι2 H3 := .of_sam sm
          have e2 : (match t ds[i] ρ2 μ2 with
            | some (ρ1, μ1) => (match f ρ1 μ1 with
              | some (.nx ρ2 μ2) => fl t f (ds.drop (i + 1)) ρ2 μ2
              | some (.ct ρ2 μ2) => fl t f (ds.drop (i + 1)) ρ2 μ2
              | some (.bk ρ2 μ2) => some (.nx ρ2 μ2)
              | r => r)
            | none => none) = some r := e2
          split at e2
          · rename_i ρ4 μ4 q4
            refine ⟨ι2, ρ2, μ2, ds[i], ρ4, μ4, l2.ext x3, m2.sam sm, rx, q4, fun ι5 H5 σ5 x5 m5 l5 _ => ?_⟩
            cases q5 : f ρ4 μ4 with
            | none => rw [q5] at e2; cases e2
            | some o =>
              refine ⟨ι5, ρ4, μ4, o, l5, m5, q5, ?_⟩
              rw [q5] at e2
              have x25 := x3.trans x5
              cases o with
              | nx ρ6 μ6 => exact fun ι6 H6 σ6 x6 m6 l6 => ⟨ι6, ρ6, μ6, l6, m6, e2, (x2.trans x25).trans x6⟩
              | ct ρ6 μ6 => exact fun ι6 H6 σ6 x6 m6 l6 => ⟨ι6, ρ6, μ6, l6, m6, e2, (x2.trans x25).trans x6⟩
              | bk ρ6 μ6 => cases e2; exact fun ι6 H6 σ6 x6 m6 l6 => p2 ι6 H6 σ6 (x25.trans x6) m6 l6
              | rt d μ6 => cases e2; exact p2.ext x25
              | ex c ρ6 μ6 => cases e2; exact p2.ext x25
          · cases e2
end
end Mi

set_option Elab.async false
set_option linter.all false
set_option maxRecDepth 100000
set_option maxHeartbeats 4000000
namespace Mi
open PySem L2

/-! ### comprehensions -/
def wipeD (ρ : En) : List Nat → En
  | [] => ρ
  | v :: vs => (wipeD ρ vs).set v none
def cl (t : Tg) (fc : Cb Bool) (fe : Cb D) : List D → List D → En → Sto → Option (Out (List D))
  | [], acc, _, μ => some (.ok acc μ)
  | d :: ds, acc, ρ, μ => match t d ρ μ with
    | some (ρ1, μ1) => (match fc ρ1 μ1 with
      | some (.ok true μ2) => (match fe ρ1 μ2 with
        | some (.ok y μ3) => if acc.length < 16777216 then cl t fc fe ds (acc ++ [y]) ρ μ3 else none
        | _ => none)
      | some (.ok false μ2) => cl t fc fe ds acc ρ μ2
      | _ => none)
    | none => none
def bYes : Cb Bool := fun _ μ => some (.ok true μ)
def bComp (own : List Nat) (fit : Cb (List D)) (t : Tg) (fc : Cb Bool) (fe : Cb D) : Cb D := fun ρ μ => ob (fit ρ μ) fun ds μ1 => ob (cl t fc fe ds [] (wipeD ρ own) μ1) fun acc μ2 => some (.ok (.lst acc) μ2)
def W0 : WX := fun _ _ _ _ => False
theorem takesN {X : Cx} : Takes X W0 := fun _ _ x => by
  obtain ⟨_, _, _, _, _, _, _, _, _, _, _, _, _, _, _, _, z⟩ := x
  exact z.elim
section
variable {g : Gb} {k j : Nat} {Λ : Lr} {X : Cx} {W : WX} {vs : List Nat} {a b c tg elt iter : Expr} {fa fb fc fe : Cb D} {pos pos' : Pos} {st : Stmt} {sts sts' : List Stmt} {f f1 f2 : Cs} {es ifs : List Expr} {fs fit : Cb (List D)} {ta tc : Cb Bool} {t : Tg} {scope : Scope}
theorem wipe_len (ρ : En) : ∀ vs : List Nat, (wipeD ρ vs).length = ρ.length
  | [] => rfl
  | v :: vs => by unfold wipeD; rw [List.length_set, wipe_len ρ vs]
theorem LR.wipe {ι : List Addr} {H : Hp} {σ : St} {ρ : En} (l : LR g Λ ι H σ ρ) : ∀ vs : List Nat, LR g Λ ι H (L2.wipe σ vs) (wipeD ρ vs)
  | [] => l
  | v :: vs => by
    have ih := l.wipe vs
    refine ⟨by rw [wipe_len, L2.wipe_length]; exact l.len, fun i d q => ?_⟩
    unfold wipeD at q
    by_cases e : v = i
    · subst e
      have hl : v < (wipeD ρ vs).length := by simpa using (List.getElem?_eq_some_iff.mp q).1
      rw [List.getElem?_set_self hl] at q
      cases q
    · rw [List.getElem?_set_ne e] at q
      obtain ⟨w, h1, h2⟩ := ih.at_ i d q
      exact ⟨w, by unfold L2.wipe; rw [List.getElem?_set_ne e]; exact h1, h2⟩
theorem XOk.blk {s : Shared} {H : Hp} {cenv : Env} {fp : List Addr} (ok : XOk g k X) : XOk g k (X.blk s H scope cenv fp) := ⟨ok.P, ok.w, ok.K, ok.mg, ok.base, ok.calm, ok.room, ok.nd, PassesOwn.never⟩
/-- in any frame with more to be left alone -/
theorem pe_any {e : Expr} {P : Lr → Prop} {tt : Lr → TE} (h : ∀ Λ', P Λ' → PE X e (tt Λ')) : PE X e (fun σ H Q => ∃ Λ', P Λ' ∧ tt Λ' σ H Q) := ⟨fun pins s σ H Q I ⟨Λ', hp, q⟩ => (h Λ' hp).run pins s σ H Q I q⟩
theorem pts_any {e : List Expr} {P : Lr → Prop} {tt : Lr → TT} (h : ∀ Λ', P Λ' → PTs X e (tt Λ')) : PTs X e (fun σ H Q => ∃ Λ', P Λ' ∧ tt Λ' σ H Q) := ⟨fun pins s σ H Q I ⟨Λ', hp, q⟩ => (h Λ' hp).run pins s σ H Q I q⟩
theorem pg_any {e : Expr} {P : Lr → Prop} {tt : Lr → TG} (h : ∀ Λ', P Λ' → PG X e (tt Λ')) : PG X e (fun v σ H Q => ∃ Λ', P Λ' ∧ tt Λ' v σ H Q) := ⟨fun pins s σ H v u Q I r ⟨Λ', hp, q⟩ => (h Λ' hp).run pins s σ H v u Q I r q⟩
def DTs (g : Gb) (k : Nat) (Λ : Lr) (X : Cx) (W : WX) (es : List Expr) (f : Cb Bool) : Prop := XOk g k X → Takes X W → PTs X es (rdT g Λ W f)
theorem PTs.imp {X : Cx} {e : List Expr} {t u : TT} (h : PTs X e t) (i : ∀ σ H Q, u σ H Q → t σ H Q) : PTs X e u := ⟨fun pins s σ H Q I q => h.run pins s σ H Q I (i σ H Q q)⟩
theorem dts_nil : DTs g k Λ X W [] bYes := fun _ _ => PTs.imp pts_nil fun σ H Q ⟨ι, ρ, μ, r, l, m, e, p⟩ => by cases e; exact p ι H (.refl _ _) m
theorem dts_one (h : DT g k Λ X W a ta) : DTs g k Λ X W [a] ta := fun ok tk => pts_one (h ok tk)
theorem wipe_none (σ : St) (v : Nat) : ∀ ws : List Nat, v ∈ ws → (L2.wipe σ ws).set v none = L2.wipe σ ws
  | [], h => by cases h
  | w :: ws, h => by
    unfold L2.wipe
    by_cases e : v = w
    · subst e
      rw [List.set_set]
    · rw [List.set_comm _ _ (fun z => e z.symm), wipe_none σ v ws ((List.mem_cons.mp h).resolve_left e)]
/-- what a comprehension's reading is -/
def tC (g : Gb) (Λ : Lr) (W : WX) (own : List Nat) (fit : Cb (List D)) (t : Tg) (tc : Cb Bool) (fe : Cb D) : TE :=
  tLc (rdI g Λ W fit) (fun v σ H Q => ∃ Λ' : Lr, Λ'.lam = Λ.lam ∧ rdG g Λ' own t v σ H Q) (fun σ H Q => ∃ Λ' : Lr, Λ'.lam = Λ.lam ∧ rdT g Λ' W0 tc σ H Q) (fun σ H Q => ∃ Λ' : Lr, Λ'.lam = Λ.lam ∧ rdE g Λ' W0 fe σ H Q) own
theorem rd_comp {own : List Nat} {σ : St} {H : Hp} {Q : VK} (h : rdE g Λ W (bComp own fit t tc fe) σ H Q) : tC g Λ W own fit t tc fe σ H Q := by
  obtain ⟨ι, ρ, μ, r, l, m, e, p⟩ := h
  have e : ob (fit ρ μ) (fun ds μ1 => ob (cl t tc fe ds [] (wipeD ρ own) μ1) fun acc μ2 => some (.ok (.lst acc) μ2)) = some r := e
  cases q : fit ρ μ with
  | none => rw [q] at e; cases e
  | some o =>
    refine ⟨ι, ρ, μ, o, l, m, q, ?_⟩
    rw [q] at e
    cases o with
    | exc c μ1 => cases e; exact p
    | ok ds μ1 =>
      intro ι1 H1 J x1 m1 it D hD
      have e : ob (cl t tc fe ds [] (wipeD ρ own) μ1) (fun acc μ2 => some (.ok (.lst acc) μ2)) = some r := e
      have lw : LR g (Λ.add D) ι1 (upd H1 D (.lst [])) (wipe σ own) (wipeD ρ own) := LR.add ((l.ext x1).wipe own) hD
      have mD : MR g (Λ.add D) ι1 (upd H1 D (.lst [])) μ1 := m1.add hD (by intro ps z; cases z)
      have fr := m1.fresh hD
      have avD : D ∈ (Λ.add D).av := List.mem_cons_self
      refine ⟨fun i n H2 => ∃ ι2 μ2 acc accV, i ≤ ds.length ∧ n = ds.length - i ∧ Ext ι1 H1 ι2 H2 ∧ MR g (Λ.add D) ι2 H2 μ2 ∧ LR g (Λ.add D) ι2 H2 (wipe σ own) (wipeD ρ own) ∧ H2 D = some (.lst accV) ∧ D ∉ ι2 ∧ Reps g.K (Λ.add D) ι2 H2 acc accV ∧
          ob (cl t tc fe (ds.drop i) acc (wipeD ρ own) μ2) (fun acc μ2 => some (.ok (.lst acc) μ2)) = some r,
        ⟨_, ι1, μ1, [], [], Nat.zero_le _, rfl, .of_sam (sam_upd hD), mD, lw, upd_same, fr.1, rfl, e⟩, ?_⟩
      intro i n H2 ⟨ι2, μ2, acc, accV, hi, hn, x2, m2, l2, hd, nD, ra, e2⟩
      obtain ⟨stop, go⟩ := it (Λ.add D) (fun d v rv => Rep.add hD d rv) ι2 H2 μ2 x2 m2 i
      by_cases hl : ds.length ≤ i
      · rw [List.drop_of_length_le hl] at e2
        cases e2
        exact .inl ⟨stop hl, p ι2 H2 (.ref D) (x1.trans x2) m2.sub ⟨D, accV, rfl, ⟨.inl hd, nD, fr.2⟩, Reps.sub acc ra⟩⟩
      · have hlt : i < ds.length := by omega
        obtain ⟨g1, g2⟩ := go ds[i] (List.getElem?_eq_getElem hlt)
        rw [List.drop_eq_getElem_cons hlt] at e2
        refine .inr ⟨g1, fun H3 => ∃ ι2 μ2 acc accV, Ext ι1 H1 ι2 H3 ∧ MR g (Λ.add D) ι2 H3 μ2 ∧ LR g (Λ.add D) ι2 H3 (wipe σ own) (wipeD ρ own) ∧ H3 D = some (.lst accV) ∧ D ∉ ι2 ∧ Reps g.K (Λ.add D) ι2 H3 acc accV ∧
          ob (cl t tc fe (ds.drop (i + 1)) acc (wipeD ρ own) μ2) (fun acc μ2 => some (.ok (.lst acc) μ2)) = some r, fun H3 ⟨ι3, μ3, acc3, accV3, y1, y2, y3, y4, y5, y6, y7⟩ => ⟨ds.length - (i + 1), by omega, ι3, μ3, acc3, accV3, by omega, rfl, y1, y2, y3, y4, y5, y6, y7⟩, fun x H3 hy => ?_⟩
        obtain ⟨sm, rx⟩ := g2 x H3 hy
        have x3 : Ext ι2 H2 ι2 H3 := .of_sam sm
        have e3 : ob (match t ds[i] (wipeD ρ own) μ2 with
          | some (ρ1, μ1) => (match tc ρ1 μ1 with
            | some (.ok true μ2) => (match fe ρ1 μ2 with
              | some (.ok y μ3) => if acc.length < 16777216 then cl t tc fe (ds.drop (i + 1)) (acc ++ [y]) (wipeD ρ own) μ3 else none
              | _ => none)
            | some (.ok false μ2) => cl t tc fe (ds.drop (i + 1)) acc (wipeD ρ own) μ2
            | _ => none)
          | none => none) (fun acc μ2 => some (.ok (.lst acc) μ2)) = some r := e2
        cases q4 : t ds[i] (wipeD ρ own) μ2 with
        | none => rw [q4] at e3; cases e3
        | some o4 =>
          obtain ⟨ρ4, μ4⟩ := o4
          rw [q4] at e3
          dsimp only at e3
          refine ⟨Λ.add D, rfl, ι2, wipeD ρ own, μ2, ds[i], ρ4, μ4, l2.ext x3, m2.sam sm, rx, q4, fun ι5 H5 σ5 x5 m5 l5 w5 => ⟨?_, ?_⟩⟩
          · have := w5
            have idem : ∀ (vs ws : List Nat), (∀ v ∈ vs, v ∈ ws) → wipe (wipe σ ws) vs = wipe σ ws := by
              intro vs ws
              induction vs with
              | nil => intro _; rfl
              | cons v vs ih =>
                intro hm
                have e1 := ih fun u hu => hm u (List.mem_cons_of_mem _ hu)
                show (wipe (wipe σ ws) vs).set v none = wipe σ ws
                rw [e1]
                exact wipe_none σ v ws (hm v List.mem_cons_self)
            rw [w5]
            exact idem own own fun _ h => h
          · cases q5 : tc ρ4 μ4 with
            | none => rw [q5] at e3; cases e3
            | some o5 =>
              refine ⟨Λ.add D, rfl, ι5, ρ4, μ4, o5, l5, m5, q5, ?_⟩
              rw [q5] at e3
              try dsimp only at e3
              cases o5 with
              | exc c μ5 => cases e3
              | ok bb μ5 =>
                intro ι6 H6 x6 m6
                have x26 : Ext ι2 H2 ι6 H6 := (x3.trans x5).trans x6
                have d6 : H6 D = some (.lst accV) := x26.keep D _ hd (by intro ps z; cases z) nD
                have n6 : D ∉ ι6 := x26.notin hd (by intro ps z; cases z) nD
                cases bb with
                | false =>
                  show (if false = true then _ else _)
                  rw [if_neg (by decide)]
                  exact ⟨ι6, μ5, acc, accV, x2.trans x26, m6, l2.ext x26, d6, n6, Reps.ext x26 acc ra, e3⟩
                | true =>
                  show (if true = true then _ else _)
                  rw [if_pos rfl]
                  cases q6 : fe ρ4 μ5 with
                  | none =>
                    have e3 : ob (match fe ρ4 μ5 with
                      | some (.ok y μ3) => if acc.length < 16777216 then cl t tc fe (ds.drop (i + 1)) (acc ++ [y]) (wipeD ρ own) μ3 else none
                      | _ => none) (fun acc μ2 => some (.ok (.lst acc) μ2)) = some r := e3
                    rw [q6] at e3
                    cases e3
                  | some o6 =>
                    have e3 : ob (match fe ρ4 μ5 with
                      | some (.ok y μ3) => if acc.length < 16777216 then cl t tc fe (ds.drop (i + 1)) (acc ++ [y]) (wipeD ρ own) μ3 else none
                      | _ => none) (fun acc μ2 => some (.ok (.lst acc) μ2)) = some r := e3
                    refine ⟨Λ.add D, rfl, ι6, ρ4, μ5, o6, l5.ext x6, m6, q6, ?_⟩
                    rw [q6] at e3
                    cases o6 with
                    | exc c μ7 => cases e3
                    | ok y μ7 =>
                      intro ι7 H7 v x7 m7 rv
                      have x27 := x26.trans x7
                      have d7 : H7 D = some (.lst accV) := x7.keep D _ d6 (by intro ps z; cases z) n6
                      have n7 : D ∉ ι7 := x7.notin d6 (by intro ps z; cases z) n6
                      have r7 : Reps g.K (Λ.add D) ι7 H7 acc accV := Reps.ext x27 acc ra
                      have hz : acc.length < 16777216 := by
                        by_cases hz : acc.length < 16777216
                        · exact hz
                        · have e3 : ob (if acc.length < 16777216 then cl t tc fe (ds.drop (i + 1)) (acc ++ [y]) (wipeD ρ own) μ7 else none) (fun acc μ2 => some (.ok (.lst acc) μ2)) = some r := e3
                          rw [if_neg hz] at e3
                          cases e3
                      have e3 : ob (if acc.length < 16777216 then cl t tc fe (ds.drop (i + 1)) (acc ++ [y]) (wipeD ρ own) μ7 else none) (fun acc μ2 => some (.ok (.lst acc) μ2)) = some r := e3
                      rw [if_pos hz] at e3
                      have hq7 : ∀ c q, H7 D ≠ some (LamX.CodeO c q) := fun c q z => by
                        rw [d7] at z
                        unfold LamX.CodeO at z
                        cases z
                      refine ⟨accV, d7, by rw [← r7.len, sizeLine_eq]; omega, ι7, μ7, acc ++ [y], accV ++ [v], ?_, ?_, (l2.ext x27).out avD hq7, upd_same, n7, Reps.app (Reps.out avD hq7 acc r7) (Reps.one (Rep.out avD hq7 y rv)), e3⟩
                      · have x17 := x2.trans x27
                        refine ⟨x17.pre, fun b o hb nt ni => ?_, fun b n => x17.nt b ?_⟩
                        · rw [upd_ne (ne_of_none hb hD)]
                          exact x17.keep b o hb nt ni
                        · intro o eo
                          by_cases z : b = D
                          · rw [z] at n
                            exact (n.no upd_same (by intro ps z; cases z)).elim
                          · exact n o (by rw [upd_ne z]; exact eo)
                      · exact m7.out avD n7 d7 (by intro ps z; cases z) (by intro c q z; unfold LamX.CodeO at z; cases z) (by intro ps z; cases z)
end
end Mi

set_option Elab.async false
set_option linter.all false
set_option maxRecDepth 100000
set_option maxHeartbeats 4000000
namespace Mi
open PySem L2
section
variable {g : Gb} {k j : Nat} {Λ : Lr} {X : Cx} {W : WX} {vs : List Nat} {a b c tg elt iter : Expr} {fa fb fc fe : Cb D} {pos pos' spos py : Pos} {st : Stmt} {sts sts' : List Stmt} {f f1 f2 : Cs} {es ifs : List Expr} {fs fit : Cb (List D)} {ta tc : Cb Bool} {t : Tg} {scope : Scope}
/-- all that a comprehension's parts are to be shown for -/
abbrev Blk (Λ : Lr) (X : Cx) (scope : Scope) (P : Lr → Cx → Prop) : Prop := ∀ Λ' : Lr, Λ'.lam = Λ.lam → ∀ (s : Shared) (H : Hp) (C : Addr) (cl : List (Str × Addr)) (fp : List Addr), P Λ' (X.blk s H scope (compEnvC scope cl C X.env) fp)
theorem de_comp (own : List (Str × Nat)) (hi : DI g k Λ X W tg iter fit) (hb : blkC X.N X.env.scope scope own = true) (ht : Blk Λ X scope fun Λ' X' => DG g k Λ' X' W0 (own.map (·.2)) tg t) (hc : Blk Λ X scope fun Λ' X' => DTs g k Λ' X' W0 ifs tc) (he : Blk Λ X scope fun Λ' X' => DE g k Λ' X' W0 elt fe)
    (hs : ∀ x, foldedSetIterable iter X.env x = pure x := by intro _; rfl) : DE g k Λ X W (.ListComp elt [⟨tg, iter, ifs, 0⟩] scope pos) (bComp (own.map (·.2)) fit t tc fe) := fun ok tk =>
  PE.imp (pe_lc ok.calm ok.nd (hi ok tk) (blkOk_by hb) (fun s H C cl fp => pg_any fun Λ' hl => ht Λ' hl s H C cl fp ok.blk takesN) (fun s H C cl fp => pts_any fun Λ' hl => hc Λ' hl s H C cl fp ok.blk takesN) (fun s H C cl fp => pe_any fun Λ' hl => he Λ' hl s H C cl fp ok.blk takesN) hs) fun σ H Q h => rd_comp h
theorem ds_setLc (i : Nat) {y : Str} (own : List (Str × Nat)) (hi : DI g k Λ X W tg iter fit) (hb : blkC X.N X.env.scope scope own = true) (ht : Blk Λ X scope fun Λ' X' => DG g k Λ' X' W0 (own.map (·.2)) tg t) (hc : Blk Λ X scope fun Λ' X' => DTs g k Λ' X' W0 ifs tc) (he : Blk Λ X scope fun Λ' X' => DE g k Λ' X' W0 elt fe)
    (hy : X.N[i]? = some y := by rfl) (hyl : X.env.scope.names.lookup y = some .local := by rfl) (hsw : swapsWith (.ListComp elt [⟨tg, iter, ifs, 0⟩] scope pos) (some (.Name y py)) spos.line X.env = pure true) (hs : ∀ x, foldedSetIterable iter X.env x = pure x := by intro _; rfl) :
    DS g k Λ X W (.Assign [.Name y py] (.ListComp elt [⟨tg, iter, ifs, 0⟩] scope pos) spos) (cSet i (bComp (own.map (·.2)) fit t tc fe)) := fun ok tk =>
  PS.imp (ps_setLc ok.calm ok.nd hy hyl hsw (hi ok tk) (blkOk_by hb) (fun s H C cl fp => pg_any fun Λ' hl => ht Λ' hl s H C cl fp ok.blk takesN) (fun s H C cl fp => pts_any fun Λ' hl => hc Λ' hl s H C cl fp ok.blk takesN) (fun s H C cl fp => pe_any fun Λ' hl => he Λ' hl s H C cl fp ok.blk takesN) hs) fun E σ H ⟨ι, ρ, μ, r, l, m, e, p⟩ =>
    rd_comp (goS_E l m e p fun d μ1 ι1 H1 v e1 e2 x1 m1 l1 r1 => by cases e2; exact p ι1 H1 _ x1 m1 (l1.set r1 i))
/-- enumerate -/
def enD : Nat → List D → List D
  | _, [] => []
  | n, d :: ds => .tup [.int n, d] :: enD (n + 1) ds
theorem enD_get : ∀ (ds : List D) (n i : Nat), (enD n ds)[i]? = ds[i]?.map fun d => .tup [.int (n + i : Nat), d]
  | [], _, _ => by simp [enD]
  | d :: ds, n, 0 => by simp [enD]
  | d :: ds, n, i + 1 => by
    show (enD (n + 1) ds)[i]? = _
    rw [enD_get ds (n + 1) i, List.getElem?_cons_succ]
    have : n + 1 + i = n + (i + 1) := by omega
    rw [this]
theorem enD_len : ∀ (ds : List D) (n : Nat), (enD n ds).length = ds.length
  | [], _ => rfl
  | d :: ds, n => by show (enD (n + 1) ds).length + 1 = _; rw [enD_len ds (n + 1)]; rfl
def bEnum (f : Cb (List D)) : Cb (List D) := fun ρ μ => ob (f ρ μ) fun ds μ1 => match ds with
  | [.lst xs] => some (.ok (enD 0 xs) μ1)
  | _ => none
theorem di_enum {p tpos : Pos} {elts : List Expr} {kk : Nat} (hm : g.mg "enumerate" = none) (ha : DA g k Λ X W [a] fs) (hg : Gl X "enumerate" := by rfl) (hs : starEach [a] X.env = [(false, eval a X.env)] := by rfl) : DI g k Λ X W (.Tuple elts kk tpos) (.Call (.Name "enumerate" p) [a] [] pos) (bEnum fs) := fun ok tk =>
  PI.imp (pi_enum hg (by rw [ok.mg]; exact hm) (ha ok tk) hs) fun σ H R ⟨ι, ρ, μ, r, l, m, e, p⟩ => goI_A l m e (by cases r with | ok _ _ => trivial | exc _ _ => exact p) fun ds μ1 ι1 H1 us e1 e2 x1 m1 l1 r1 => by
    split at e2
    · rename_i xs
      cases e2
      obtain ⟨v, rfl, rv⟩ := r1.inv1
      obtain ⟨ad, ws, rfl, h2, h3⟩ := rv
      refine ⟨ad, ws, rfl, by rw [ok.K]; exact .inl h2.1, p ι1 H1 _ x1 m1 fun Λ' hΛ ι2 H2 μ2 x2 m2 i => ?_⟩
      have h4 : Rep g.K Λ' ι2 H2 (.lst xs) (.ref ad) := Rep.ext x2 (.lst xs) (hΛ _ _ ⟨ad, ws, rfl, h2, h3⟩)
      obtain ⟨ad2, zs, z, h5, h6⟩ := h4
      cases z
      have sq : SqL X.K H2 ad zs := .inl h5.1
      refine ⟨fun hi => ⟨zs, sq, by rw [← h6.len]; rw [enD_len] at hi; exact hi⟩, fun d hd => ?_⟩
      rw [enD_get] at hd
      cases q : xs[i]? with
      | none => rw [q] at hd; cases hd
      | some d' =>
        rw [q] at hd
        cases hd
        obtain ⟨y, hy, ry⟩ := h6.get q
        refine ⟨⟨zs, y, sq, hy⟩, fun x H3 hx => ?_⟩
        obtain ⟨q, y', rfl, hq, rfl, hx⟩ := hx
        have := hx zs sq
        rw [hy] at this
        cases this
        have hr : Reps g.K Λ' ι2 H2 [.int ((0 + i : Nat) : Int), d'] [.int i, y] := ⟨_, _, rfl, by rw [Nat.zero_add]; rfl, Reps.one ry⟩
        obtain ⟨y1, y2, y3⟩ := new_tup m2 hq hr
        exact ⟨sam_upd hq, y3⟩
    · cases e2
/-! ### defs -/
def fnS (N : Nat) (body : Cs) : FnS := fun ds μ => match body (ds.map some ++ List.replicate (N - ds.length) none) μ with
  | some (.nx _ μ') => some (.ok .non μ')
  | some (.rt d μ') => if lamf d = true then some (.ok d μ') else none
  | some (.ex c _ μ') => some (.exc c μ')
  | _ => none
structure FunC (K : PySem.W.Frag) (x qual : Str) (st : Stmt) (f c : Addr) (fd : FuncData) : Prop where
  ex : ∃ (oc : Value) (od : Option Addr) (kV doc pm : Value) (an : Option Addr) (ct : Value) (osl : Array (Option Value)),
    fd = PySem.W.fnOf x qual (defArgs st) (defBody st) (defScope st) .none kV doc pm an (.ref c) ct ∧ K.lookup f = some ⟨oc, od, .func fd, osl⟩ ∧ PySem.W.codeIn K (.ref c) qual = true
  kp : PySem.W.keepIn K (.ref f) = true
theorem FunC.binds {K : PySem.W.Frag} {x qual : Str} {f cc : Addr} {fd : FuncData} {ps : List Str} (F : FunC K x qual st f cc fd)
    (h : ∀ (kV doc pm : Value) (an : Option Addr) (cdv ct : Value) (us : List Value), us.length = ps.length → bindArgs (PySem.W.fnOf x qual (defArgs st) (defBody st) (defScope st) .none kV doc pm an cdv ct) ⟨us, []⟩ = pure (ps.zip us)) : Binds K fd ps [] := by
  obtain ⟨oc, od, kV, doc, pm, an, ct, osl, rfl, lk, hcd⟩ := F.ex
  exact .all (h kV doc pm an _ ct)
theorem LR.start {ι : List Addr} {H : Hp} {N : List Str} {ds : List D} {us : List V} (r : Reps g.K Λ ι H ds us) : LR g Λ ι H (start N us) (ds.map some ++ List.replicate (N.length - ds.length) none) := by
  unfold L2.start
  refine ⟨by simp [r.len], fun i d q => ?_⟩
  by_cases hi : i < ds.length
  · rw [List.getElem?_append_left (by simpa using hi), List.getElem?_map] at q
    obtain ⟨d', h1, h2⟩ := Option.map_eq_some_iff.mp q
    cases h2
    obtain ⟨v, h3, h4⟩ := r.get h1
    exact ⟨v, by rw [List.getElem?_append_left (by rw [List.length_map, ← r.len]; exact hi), List.getElem?_map, h3]; rfl, h4⟩
  · rw [List.getElem?_append_right (by simpa using hi)] at q
    obtain ⟨_, q⟩ := List.getElem?_eq_some_iff.mp q
    simp at q
/-- the context of a def's body -/
abbrev fX (g : Gb) (N : List Str) (x : Str) (st : Stmt) (f c : Addr) (A : Around) (outer : List Env) (s : Shared) (H : Hp) (E : XK) : Cx := cxOf (L2.CX g.P g.w) g.P g.w g.K g.mg g.base N x (defScope st) f (.ref c) A outer s H E
abbrev fW (E : XK) : WX := fun cls d _ H => E cls d H
theorem fn_okE (lamP : Nat → Addr → Addr → Str → HO → Prop) {x qual : Str} {f cc : Addr} {fd : FuncData} {N ps : List Str} {body : Cs} (F : FunC g.K x qual st f cc fd) (hm : g.mg x = some (.ref f)) (S : FnScope N ps (defScope st)) (hbd : Binds g.K fd ps [])
    (hb : ∀ (A : Around) (outer : List Env) (s : Shared) (H : Hp) (E : XK) (av : List Addr), DSs g k ⟨lamP, av⟩ (fX g N qual st f cc A outer s H E) (fW E) (defBody st) body) : FnOk g.P g.w g.K g.mg g.base (L2.CX g.P g.w) (k + 1) f fd ps (spM g ps.length (fnS N.length body)) := by
  obtain ⟨oc, od, kV, doc, pm, an, ct, osl, rfl, lk, hcd⟩ := F.ex
  refine fn_of lk hcd S (fun vs H Q E h => h.1) fun A outer s H vs Q E hr hsp => ?_
  obtain ⟨hl, Λ0, ι, ds, μ, r, m, rs, hF, hq⟩ := hsp
  have ok : XOk g k (fX g N qual st f cc A outer s H E) := ⟨rfl, rfl, rfl, rfl, rfl, rfl, hr, S.nd, passes_of rfl⟩
  have tk : Takes (fX g N qual st f cc A outer s H E) (fW E) := takes_of rfl rfl rfl rfl
  refine ⟨_, hb A outer s H E Λ0.av ok tk, ?_⟩
  have rs' : Reps g.K ⟨lamP, Λ0.av⟩ ι H ds vs := Reps.of_pure (Λ := ⟨lamP, Λ0.av⟩) ds rs
  have m' : MR g ⟨lamP, Λ0.av⟩ ι H μ := m.fr rfl
  have hF : (match body (ds.map some ++ List.replicate (N.length - ds.length) none) μ with
    | some (.nx _ μ') => some (Out.ok D.non μ')
    | some (.rt d μ') => if lamf d = true then some (.ok d μ') else none
    | some (.ex c _ μ') => some (.exc c μ')
    | _ => none) = some r := hF
  split at hF
  · rename_i ρ' μ' q
    cases hF
    exact ⟨ι, _, μ, _, LR.start rs', m', q, fun ι' H' σ' x' m2 _ => hq ι' H' .non x' (m2.fr rfl) rfl⟩
  · rename_i d μ' q
    split at hF
    · rename_i hd
      cases hF
      exact ⟨ι, _, μ, _, LR.start rs', m', q, fun ι' H' v x' m2 rv => hq ι' H' v x' (m2.fr rfl) (Rep.lam (Λ := ⟨lamP, Λ0.av⟩) (Λ' := Λ0.pure) rfl d hd rv)⟩
    · cases hF
  · rename_i cn ρ' μ' q
    cases hF
    exact ⟨ι, _, μ, _, LR.start rs', m', q, fun ι' H' σ' x' m2 _ => hq ι' H' x' (m2.fr rfl)⟩
  · cases hF
theorem fn_ok (lamP : Nat → Addr → Addr → Str → HO → Prop) {x qual : Str} {f cc : Addr} {fd : FuncData} {N ps : List Str} {body : Cs} (F : FunC g.K x qual st f cc fd) (hm : g.mg x = some (.ref f)) (S : FnScope N ps (defScope st)) (hbd : Binds g.K fd ps [])
    (hb : ∀ (A : Around) (outer : List Env) (s : Shared) (H : Hp) (E : XK) (av : List Addr), DSs g k ⟨lamP, av⟩ (fX g N qual st f cc A outer s H E) (fW E) (defBody st) body) : Fn g (k + 1) x ps.length (fnS N.length body) :=
  ⟨f, _, ps, hm, F.kp, hbd, fn_okE lamP F hm S hbd hb⟩
/-- the same with the function object told -/
def FnC (g : Gb) (k : Nat) (x : Str) (st : Stmt) (ps : List Str) (F : FnS) : Prop := ∃ f c fd, FunC g.K x x st f c fd ∧ g.mg x = some (.ref f) ∧ FnOk g.P g.w g.K g.mg g.base (L2.CX g.P g.w) k f fd ps (spM g ps.length F)
theorem FunC.inj {K : PySem.W.Frag} {x qual : Str} {f c c' : Addr} {fd fd' : FuncData} (a : FunC K x qual st f c fd) (b : FunC K x qual st f c' fd') : fd = fd' := by
  obtain ⟨_, _, _, _, _, _, _, _, _, h1, _⟩ := a.ex
  obtain ⟨_, _, _, _, _, _, _, _, _, h2, _⟩ := b.ex
  rw [h1] at h2
  injection h2 with h2
  injection h2 with _ _ h2
  injection h2
end
end Mi

set_option Elab.async false
set_option linter.all false
set_option maxRecDepth 100000
set_option maxHeartbeats 4000000
namespace Mi
open PySem L2 LamX
/-! ### lambdas -/
def bTold (ret en : Str) (fb : Cb D) : Cb D := fun ρ μ => match fb ρ μ with
  | some (.ok d m) => some (.ok d m)
  | some (.exc c m) => if c = en then some (.ok (.str ret) m) else none
  | none => none
/-- try: return a() / except en: return ret -/
structure ToldF (g : Gb) (x en ret a : Str) (st : Stmt) (ga ca : Addr) (fd : FuncData) (Ng : List Str) (p1 p2 p3 p4 p5 p6 p7 p8 : Pos) (jj : Nat) : Prop where
  F : FunC g.K x x st ga ca fd
  mgx : g.mg x = some (.ref ga)
  hb : Binds g.K fd [a] []
  S : FnScope Ng [a] (defScope st)
  n0 : Ng[0]? = some a
  va : Vis (defScope st) a
  body : defBody st = [.Try [.Return (some (.Call (.Name a p1) [] [] p2)) p3] [.ExceptHandler (some (.Name en p4)) none [.Return (some (.Constant (.str ret) jj p5)) p6] p7] [] [] p8]
  hge : (defScope st).names.lookup en = some .globalImplicit
  hde : (en == ("__debug__" : Str)) = false
  hd : (a == ("__debug__" : Str)) = false
  hcd : (a == ("__classdict__" : Str)) = false
  mge : g.mg en = some (.ref (g.cls en))
  exm : PySem.W.exmOne g.K (.ref (g.cls en)) (.ref (g.cls en)) = some true
section
variable {g : Gb} {k j k' : Nat} {Λ : Lr} {X : Cx} {W : WX} {fb ff : Cb D} {x en ret a q : Str} {st : Stmt} {ga ca cc PP : Addr} {fd : FuncData} {Ng : List Str} {p1 p2 p3 p4 p5 p6 p7 p8 p pos lpos : Pos} {jj : Nat} {params : Arguments} {body : Expr} {scope : Scope}
theorem ext_of_n {ι : List Addr} {H H' : Hp} (e : ExtN H H') : Ext ι H ι H' := ⟨⟨[], by simp, by simp⟩, fun a o h n _ => e a o h n, fun a n o h => by
  by_cases z : ∃ ps, o = .tbl ps
  · exact z
  · exact n o (e a o h fun ps hp => z ⟨ps, hp⟩)⟩
theorem MR.ofN {ι : List Addr} {H H' : Hp} {μ : Sto} (m : MR g Λ ι H μ) (e : ExtN H H') (t : Tabs g.T H') : MR g Λ ι H' μ := ⟨m.len, m.nd, fun n so q => by
  obtain ⟨a, h1, h2⟩ := m.ob n so q
  exact ⟨a, h1, h2.ext' (ext_of_n e) fun o h nt => e a o h nt⟩, t, fun a ha n => m.avs a ha ((ext_of_n (ι := []) e).nt a n)⟩
theorem XOk.lam {A : Around} {outer : List Env} {s : Shared} {H : Hp} {E : XK} {f c' : Addr} (ok : XOk g k X) (hr : Room k' (A.deeper (lamEnv X scope s.heap.objs.size f c'))) : XOk g k' (lamCx X A outer s H E scope f c') :=
  ⟨ok.P, ok.w, ok.K, ok.mg, ok.base, rfl, hr, ok.nd, passes_of rfl⟩
theorem told_rd {ι : List Addr} {H : Hp} {σ : St} {ρ : En} {μ : Sto} {r : Out D} {Q : VK} {CS : Addr} (hcs : g.cls en = CS) (hx : PySem.W.exmOne g.K (.ref (g.cls en)) (.ref CS) = some true) (l : LR g Λ ι H σ ρ) (m : MR g Λ ι H μ) (e : bTold ret en fb ρ μ = some r) (p : Post g Λ W ι H σ r Q) :
    rdE g Λ (fW fun cls _ H' => ∃ b, PySem.W.exmOne g.K cls (.ref CS) = some b ∧ (b = true → Q (.str ret) H') ∧ (b = false → False)) fb σ H Q := by
  unfold bTold at e
  split at e
  · rename_i d m' q
    cases e
    exact ⟨ι, ρ, μ, _, l, m, q, p⟩
  · rename_i c m' q
    split at e
    · rename_i hc
      cases e
      subst hc
      exact ⟨ι, ρ, μ, _, l, m, q, fun ι' H' x' m2 => ⟨true, hx, fun _ => p ι' H' (.str ret) x' m2 rfl, fun z => by cases z⟩⟩
    · cases e
  · cases e
theorem de_told (TF : ToldF g x en ret a st ga ca fd Ng p1 p2 p3 p4 p5 p6 p7 p8 jj) (TB : TabB g.base g.mg cc PP) (hmT : (PP, X.env.qual ++ "<lambda>") ∈ g.T) (hu : ∀ p ∈ g.T, p.1 = PP → p.2 = X.env.qual ++ "<lambda>") (hk : k' + 2 ≤ k) (L : lamSB X.env.scope scope = true)
    (hbody : ∀ (A : Around) (outer : List Env) (s : Shared) (H : Hp) (E : XK) (f c' : Addr), DE g k' Λ (lamCx X A outer s H E scope f c') (fW E) body fb)
    (hcode : X.env.code = .ref cc := by rfl) (hg : Gl X x := by rfl) (hdef : defaultsOf params X.env = ([], []) := by rfl) (hdb : (x == ("__debug__" : Str)) = false := by decide)
    (hbind : ∀ (q : Str) (cl : List (Str × Addr)) (pm cv ctv : Value), bindArgs (PySem.W.kla_fn "<lambda>" q params body scope cl pm cv ctv) ⟨[], []⟩ = pure [] := by intros; rfl) : DE g k Λ X W (.Call (.Name x p) [.Lambda params body scope lpos] [] pos) (bTold ret en fb) := fun ok tk => by
  obtain ⟨oc, od, kV, doc, pm, an, ct, osl, rfl, lk, hcd⟩ := TF.F.ex
  have hG : GivesTo X Ng x (defScope st) ga (.ref ca) (defBody st) a (X.env.qual ++ "<lambda>") (TTold X.K (g.cls en) ret) := by
    rw [TF.body]
    refine told_gives TF.hge (by rw [ok.mg]; exact TF.mge) TF.hde fun f => ?_
    have := TF.n0
    cases Ng with
    | nil => cases this
    | cons n ns => rfl
  refine PE.imp (pe_lamcall (t := fun E => rdE g Λ (fW E) fb) (T := g.T) (k := k') hg (by rw [ok.mg]; exact TF.mgx) (by rw [ok.K]; exact TF.F.kp) (by rw [ok.K]; exact lk) (by rw [ok.K]; exact hcd) (by rw [ok.K]; exact TF.hb) TF.S TF.n0 TF.va hG (by rw [ok.base, ok.mg]; exact TB) hcode hmT hu (ok.room.mono hk) (lamS_by L) hdef hbind
    (fun A outer s H E f c' hr => hbody A outer s H E f c' (ok.lam hr) (takes_of rfl rfl rfl rfl)) hdb TF.hd TF.hcd) fun σ H Q ⟨ι, ρ, μ, r, l, m, e, p⟩ => ?_
  refine ⟨m.tabs, fun H1 eN T1 => ?_⟩
  have x1 : Ext ι H ι H1 := ext_of_n eN
  show rdE g Λ (fW fun cls _ H' => ∃ b, PySem.W.exmOne X.K cls (.ref (g.cls en)) = some b ∧ (b = true → Q (.str ret) H') ∧ (b = false → False)) fb σ H1 Q
  rw [ok.K]
  exact told_rd rfl TF.exm (l.ext x1) (m.ofN eN T1) e (p.ext x1)
/-! a lambda as a value: without captured names -/
def LamO (f : Addr) (q : Str) (params : Arguments) (body : Expr) (scope : Scope) (c : Addr) : HO := .ext fun h => ∃ (pm ctv : Value), h.get? f = some (PySem.W.kla_obj "<lambda>" q params body scope [] pm c ctv)
def noFree (scope : Scope) : Bool := scope.names.all fun y => !decide (y.2 = .free)
theorem clo_nil {cells : List (Str × Addr)} : ∀ {names : List (Str × NameKind)} {acc : List (Str × Addr)}, (names.all fun y => !decide (y.2 = .free)) = true → cloFrom cells names acc = acc
  | [], _, _ => rfl
  | (n, kk) :: r, acc, h => by
    simp only [List.all_cons, Bool.and_eq_true, Bool.not_eq_true', decide_eq_false_iff_not] at h
    unfold cloFrom
    have : (kk == NameKind.free) = false := by
      cases kk <;> first | rfl | exact absurd rfl h.1
    rw [this]
    exact clo_nil h.2
/-- the n-th lambda of a frame means fbs[n] -/
def lamP (g : Gb) (k' : Nat) (fbs : List (Cb D)) (qual : Str) : Nat → Addr → Addr → Str → HO → Prop := fun n f c q o => q = qual ∧ ∃ params body scope fb, fbs[n]? = some fb ∧ o = LamO f q params body scope c ∧ lamSB scope scope = true ∧ noFree scope = true ∧
  (∀ (q : Str) (cl : List (Str × Addr)) (pm cv ctv : Value), bindArgs (PySem.W.kla_fn "<lambda>" q params body scope cl pm cv ctv) ⟨[], []⟩ = pure []) ∧
  ∀ (Λ : Lr) (X : Cx) (A : Around) (outer : List Env) (s : Shared) (H : Hp) (E : XK) (f c' : Addr), DE g k' Λ (lamCx X A outer s H E scope f c') (fW E) body fb
theorem lamS_free {sc : Scope} (h : lamSB scope scope = true) (n : noFree scope = true) : LamS sc scope := by
  have L := lamS_by h
  refine ⟨L.kind, L.co, L.gen, L.own, fun y hy e => ?_⟩
  have := List.all_eq_true.mp n y hy
  rw [e] at this
  simp at this
theorem lam_track {pins : List (Addr × Obj)} {σ : St} {H : Hp} {s : Shared} {E Q : Value → Shared → Prop} (I : Inv X pins σ H s) (TB : TabB X.base X.mg cc PP) (hcode : X.env.code = .ref cc) {T : List (Addr × Str)}
    (hm : (PP, X.env.qual ++ "<lambda>") ∈ T) (hu : ∀ p ∈ T, p.1 = PP → p.2 = X.env.qual ++ "<lambda>") (hT : Tabs T H) (hdef : defaultsOf params X.env = ([], [])) (nf : noFree scope = true)
    (h : ∀ (f c' : Addr) (H1 : Hp) (s' : Shared), Inv X pins σ H1 s' → ExtN H H1 → Tabs T H1 → H1 f = some (LamO f (X.env.qual ++ "<lambda>") params body scope c') → H f = none → H c' = none ∨ H c' = some (CodeO c' (X.env.qual ++ "<lambda>")) → H1 c' = some (CodeO c' (X.env.qual ++ "<lambda>")) → Q (.ref f) s') :
    wpAny (model X.prog X.w) X.A (eval (.Lambda params body scope pos) X.env) Q E s := by
  obtain ⟨ps, hP, ht, ha⟩ := hT _ hm
  refine PySem.W.kla_eval hdef ?_
  have nfree : ∀ y ∈ scope.names, y.2 = .free → ∃ c, X.env.cells.lookup y.1 = some c := fun y hy e => by
    have := List.all_eq_true.mp nf y hy
    rw [e] at this
    simp at this
  have ec : cloFrom X.env.cells scope.names [] = [] := clo_nil nf
  have hcl := closure_ok (env := X.env) nfree
  rw [ec] at hcl
  have bP : s.heap.BuiltinsAt X.mg PP := TB.bm.keeps I.bk
  have hP' : s.heap.get? PP = some { cls := .none, data := .fields ps } := I.hok PP _ hP
  have lo : ∀ {f c' : Addr} {pm ctv : Value} {h2 : Heap}, h2.get? f = some (PySem.W.kla_obj "<lambda>" (X.env.qual ++ "<lambda>") params body scope [] pm c' ctv) → ∀ H2 : Hp, ObjOk X.prog X.w H2 h2 f (LamO f (X.env.qual ++ "<lambda>") params body scope c') :=
    fun {f c' pm ctv h2} e H2 => ⟨⟨pm, ctv, e⟩, ⟨_, e⟩, fun h3 h4 ⟨pm, ctv, q⟩ st => ⟨pm, ctv, st _ q⟩⟩
  cases hc : codeAmong pos ps.toList with
  | some cv =>
    obtain ⟨c', e, hco⟩ := ha pos cv hc
    subst e
    refine PySem.W.kla_makeFunctionHit (mg := X.mg) (c := cc) (P := PP) (ps := ps) hcl I.ok.glob (I.mod.glob.keeps I.bk) hcode (TB.code.keeps I.bk) hP' ht hc bP fun ctv h' tk hx hsz => ?_
    have hn : H h'.objs.size = none := I.hok.fresh hsz
    have ge := Heap.get?_push_size h' (o := PySem.W.kla_obj "<lambda>" (X.env.qual ++ "<lambda>") params body scope [] ((X.mg "__name__").getD .none) c' ctv) rfl
    have I1 := I.laid (t' := tk) (fun b o e => Heap.get?_push_of_some _ (hx b o e)) hsz (lo ge _)
    have sm : Sam H (upd H h'.objs.size (LamO h'.objs.size (X.env.qual ++ "<lambda>") params body scope c')) := sam_upd hn
    exact h h'.objs.size c' _ _ I1 (ExtN.of sm) (hT.ext sm) upd_same hn (.inr hco) (sm _ _ hco)
  | none =>
    refine PySem.W.kla_makeFunction (mg := X.mg) (c := cc) (P := PP) (ps := ps) hcl I.ok.glob (I.mod.glob.keeps I.bk) hcode (TB.code.keeps I.bk) hP' ht hc TB.gP bP fun c' ctv h' tk hx hge hlt hrec htb => ?_
    obtain ⟨c2, oc, vs, t, e2, hoc, hd, hv⟩ := hrec
    cases e2
    have hsz : s.heap.objs.size ≤ h'.objs.size := Nat.le_trans hge (Nat.le_of_lt hlt)
    have nC : H c' = none := I.hok.fresh hge
    have nF : H h'.objs.size = none := I.hok.fresh hsz
    have I1 := inv_table (t' := tk) (more := #[rawInt pos.line, rawInt pos.col, .ref c']) (h' := h') (q := X.env.qual ++ "<lambda>") I hP hx htb hge ⟨oc, vs, t, hoc, hd, hv⟩
    generalize hH1 : upd (upd H PP (.tbl (ps ++ #[rawInt pos.line, rawInt pos.col, .ref c']))) c' (CodeO c' (X.env.qual ++ "<lambda>")) = H1 at I1
    have hE : ExtN H H1 := fun b o e n => by
      rw [← hH1, upd_ne (ne_of_none e nC), upd_ne (fun z => n ps (Option.some.inj (e.symm.trans (by rw [z]; exact hP))))]
      exact e
    have eL : (ps ++ #[rawInt pos.line, rawInt pos.col, .ref c']).toList = ps.toList ++ [rawInt pos.line, rawInt pos.col, .ref c'] := by simp
    have hc1 : H1 c' = some (CodeO c' (X.env.qual ++ "<lambda>")) := by rw [← hH1, upd_same]
    have T1 : Tabs T H1 := fun p hp => by
      by_cases hb : p.1 = PP
      · rw [hu p hp hb, hb]
        refine ⟨_, by rw [← hH1, upd_ne (ne_of_none hP nC), upd_same], by rw [eL]; exact PySem.TriplesOk_snoc _ _ _ _ ht, fun p' cv hcv => ?_⟩
        rw [eL] at hcv
        rcases among_app _ ht hcv with z | z
        · obtain ⟨c0, e1, e2⟩ := ha p' cv z
          exact ⟨c0, e1, hE _ _ e2 codeO_ne⟩
        · exact ⟨c', z, hc1⟩
      · obtain ⟨ps', a1, a2, a3⟩ := hT p hp
        refine ⟨ps', by rw [← hH1, upd_ne (ne_of_none a1 nC), upd_ne hb]; exact a1, a2, fun p' cv hcv => ?_⟩
        obtain ⟨c0, e1, e2⟩ := a3 p' cv hcv
        exact ⟨c0, e1, hE _ _ e2 codeO_ne⟩
    have n1 : H1 h'.objs.size = none := by
      have q1 : h'.objs.size ≠ c' := Nat.ne_of_gt hlt
      have q2 : h'.objs.size ≠ PP := Nat.ne_of_gt (Nat.lt_of_lt_of_le (Heap.lt_size hP') hsz)
      rw [← hH1, upd_ne q1, upd_ne q2]
      exact nF
    have ge := Heap.get?_push_size h' (o := PySem.W.kla_obj "<lambda>" (X.env.qual ++ "<lambda>") params body scope [] ((X.mg "__name__").getD .none) c' ctv) rfl
    have I2 := I1.laid (t' := tk) (h' := h'.push (PySem.W.kla_obj "<lambda>" (X.env.qual ++ "<lambda>") params body scope [] ((X.mg "__name__").getD .none) c' ctv)) (fun b o e => Heap.get?_push_of_some _ e) (Nat.le_refl _) (lo ge _)
    have sm : Sam H1 (upd H1 h'.objs.size (LamO h'.objs.size (X.env.qual ++ "<lambda>") params body scope c')) := sam_upd n1
    exact h h'.objs.size c' _ _ I2 (hE.trans (ExtN.of sm)) (T1.ext sm) upd_same nF (.inl nC) (sm _ _ hc1)
theorem de_lam (n : Nat) {fbs : List (Cb D)} (TB : TabB g.base g.mg cc PP) (hmT : (PP, X.env.qual ++ "<lambda>") ∈ g.T) (hu : ∀ p ∈ g.T, p.1 = PP → p.2 = X.env.qual ++ "<lambda>") (hΛ : Λ.lam = lamP g k' fbs (X.env.qual ++ "<lambda>")) (hn : fbs[n]? = some fb) (hs : lamSB scope scope = true) (nf : noFree scope = true)
    (hbody : ∀ (Λ : Lr) (X : Cx) (A : Around) (outer : List Env) (s : Shared) (H : Hp) (E : XK) (f c' : Addr), DE g k' Λ (lamCx X A outer s H E scope f c') (fW E) body fb)
    (hcode : X.env.code = .ref cc := by rfl) (hdef : defaultsOf params X.env = ([], []) := by rfl)
    (hbind : ∀ (q : Str) (cl : List (Str × Addr)) (pm cv ctv : Value), bindArgs (PySem.W.kla_fn "<lambda>" q params body scope cl pm cv ctv) ⟨[], []⟩ = pure [] := by intros; rfl) : DE g k Λ X W (.Lambda params body scope pos) (bCon (.lam n)) := fun ok tk => by
  refine ⟨fun pins s σ H Q I ⟨ι, ρ, μ, r, l, m, e, p⟩ => ?_⟩
  cases e
  refine lam_track I (by rw [ok.base, ok.mg]; exact TB) hcode hmT hu m.tabs hdef nf fun f c' H1 s' I1 eN T1 hf hfn hc0 hc1 => ?_
  have x1 : Ext ι H ι H1 := ext_of_n eN
  have fr := m.fresh hfn
  have frc : c' ∉ ι := by
    rcases hc0 with z | z
    · exact (m.fresh z).1
    · intro hm
      unfold CodeO at z
      rcases m.mem hm with ⟨_, q⟩ | ⟨_, q⟩ | ⟨_, _, _, q⟩ <;> rw [z] at q <;> cases q
  exact ⟨.ref f, H1, I1, rfl, p ι H1 (.ref f) x1 (m.ofN eN T1) ⟨f, c', _, _, rfl, hf, (by intro ps z; unfold LamO at z; cases z), fr, hc1, frc, by rw [hΛ]; exact ⟨rfl, params, body, scope, fb, hn, rfl, hs, nf, hbind, hbody⟩⟩⟩
end
end Mi

set_option Elab.async false
set_option linter.all false
set_option maxRecDepth 100000
set_option maxHeartbeats 4000000
namespace Mi
open PySem L2 LamX
/-! ### a lambda that a name holds, handed to the def that calls it -/
def bToldV (ret en : Str) (fbs : List (Cb D)) (ff : Cb D) : Cb D := fun ρ μ => ob (ff ρ μ) fun d μ1 => match d with
  | .lam n => match fbs[n]? with
    | some fb => bTold ret en fb ρ μ1
    | none => none
  | _ => none
section
variable {g : Gb} {k j k' : Nat} {Λ : Lr} {X : Cx} {W : WX} {fb ff : Cb D} {x en ret a q : Str} {st : Stmt} {ga ca cc PP : Addr} {fd : FuncData} {Ng : List Str} {p1 p2 p3 p4 p5 p6 p7 p8 p pos lpos : Pos} {jj : Nat} {params : Arguments} {body : Expr} {scope : Scope}
theorem pe_act0 {pins : List (Addr × Obj)} {σ : St} {H : Hp} {s : Shared} {sg : Scope} {f c' : Addr} {cdg : Value} {i : Nat} {pn : List (Addr × Obj)} {xe : Value → Shared → Prop} {WW : WX} {E : XK} {tb : TE}
    (I : Inv X pins σ H s) (hs : lamSB scope scope = true) (nf : noFree scope = true) (hq : X.env.qual ++ "<lambda>" = q)
    (hbind : ∀ (q : Str) (cl : List (Str × Addr)) (pm cv ctv : Value), bindArgs (PySem.W.kla_fn "<lambda>" q params body scope cl pm cv ctv) ⟨[], []⟩ = pure [])
    (tk : Takes ((cxOf C8.CX0 X.prog X.w X.K X.mg X.base Ng x sg ga cdg X.A X.stack s H C8.E0).tr pn xe) WW) (hW : ∀ cls d σ' H', E cls d H' → WW cls d σ' H') (hr : Room (k + 1) (X.A.deeper (PyProof.Rows.envOfC x sg s.heap.objs.size ga cdg)))
    (hbody : ∀ (A : Around) (outer : List Env) (s : Shared) (H : Hp), Room k (A.deeper (lamEnv X scope s.heap.objs.size f c')) → PE (lamCx X A outer s H E scope f c') body tb)
    (hN : Ng[i]? = some a) (hv : Vis sg a) (hd : (a == ("__debug__" : Str)) = false) (hcd : (a == ("__classdict__" : Str)) = false) :
    PE ((cxOf C8.CX0 X.prog X.w X.K X.mg X.base Ng x sg ga cdg X.A X.stack s H C8.E0).tr pn xe) (.Call (.Name a p1) [] [] p2)
      (fun σZ HZ Q => σZ[i]? = some (some (.ref f)) ∧ HZ c' = some (CodeO c' q) ∧ HZ f = some (LamO f q params body scope c') ∧ tb σ HZ Q) := by
  have L : LamS X.env.scope scope := lamS_free hs nf
  subst hq
  refine ⟨fun pinsZ sZ σZ HZ Q IZ ⟨h1, hc, hl, ht⟩ => ?_⟩
  refine wpAny_Call_Name_kw (thn ((pe_var (pos := p1) (i := i) hN hv hd hcd).run pinsZ sZ σZ HZ (fun v H1 => v = .ref f ∧ H1 = HZ) IZ ⟨.ref f, h1, rfl, rfl⟩) fun u s1 ⟨v, H1, I1, r1, ev, eH⟩ => ?_)
  subst ev
  rw [eH] at I1
  obtain rfl : u = Value.ref f := r1
  obtain ⟨⟨pm, ctv, of1⟩, _, _⟩ := I1.hok f _ hl
  have ec : ([] : List (Str × Addr)) = cloFrom X.env.cells scope.names [] := (clo_nil nf).symm
  rw [ec] at of1
  refine PySem.W.callWith_F0 ⟨_, _, _, _, of1⟩ ?_
  have un : Un (frs X.stack) [] H HZ s.heap s1.heap := I1.base
  obtain ⟨⟨oc, vs, t, hoc, hdc, hvc⟩, _, _⟩ := I1.hok c' _ hc
  have rc : codeAny (model X.prog X.w) (X.A.deeper (PyProof.Rows.envOfC x sg s.heap.objs.size ga cdg)) (.call (.ref f) ⟨[], []⟩) (CR (L2.CX X.prog X.w) (PyProof.Rows.envOfC x sg s.heap.objs.size ga cdg :: X.stack) X.prog X.w HZ s1 Q E) s1 := by
    refine PySem.W.kla_callFunE hr.depth of1 rfl L.co L.gen rfl ⟨c', oc, vs, t, rfl, hoc, hdc, hvc⟩ ?_
    rw [hbind]
    refine wpAny_pure (wpAny_newFunctionEnv (fun y hy => (L.own y hy).2) (fun y hy => absurd hy (by simp)) (fun h₁ hns hsb => ⟨I1.nolimit.fresh _ hsb, ?_⟩) L.kind)
    show codeAny _ _ (.expr body (lamEnv X scope s1.heap.objs.size f c')) _ _
    have kp : ∀ b o, s1.heap.get? b = some o → h₁.get? b = some o := fun b o e => hsb.extBut b o (Nat.ne_of_lt (Heap.lt_size e)) (Heap.get?_push_of_some _ e)
    have J : Inv (lamCx X (X.A.deeper (PyProof.Rows.envOfC x sg s.heap.objs.size ga cdg)) (PyProof.Rows.envOfC x sg s.heap.objs.size ga cdg :: X.stack) s1 HZ E scope f c') [] σ HZ { s1 with heap := h₁, toks := s1.toks + ([] : List (Str × Value)).length } :=
      lam_start2 I L I1.env0 hr.hd un hns kp
    refine PySem.W.kla_codeExpr (wpAny_mono ((hbody _ _ s1 HZ (hr.deeper _)).run [] _ _ HZ Q J ht) (fun v s' hq => ?_) fun e s' hq => hq)
    obtain ⟨w', H', J', rv, q⟩ := hq
    exact ⟨w', H', J'.os, J'.bare, J'.base, J'.hok, rv, q⟩
  have hx : Passes (L2.CX X.prog X.w) ((cxOf C8.CX0 X.prog X.w X.K X.mg X.base Ng x sg ga cdg X.A X.stack s H C8.E0).tr pn xe) E := passes_call tk hW
  refine wpAny_call (codeAny_mono rc fun r s' hq => ?_)
  cases r with
  | error e => exact hx pinsZ σZ HZ s1 e s' I1 hq
  | ok fl =>
    cases fl with
    | ret u => exact I1.after hq
    | next => exact False.elim hq
    | brk => exact False.elim hq
    | cont => exact False.elim hq
theorem de_toldv {e : Expr} {fbs : List (Cb D)} (TF : ToldF g x en ret a st ga ca fd Ng p1 p2 p3 p4 p5 p6 p7 p8 jj) (hΛ : Λ.lam = lamP g k' fbs q) (hk : k' + 2 ≤ k) (he : DE g k Λ X W e ff) (hq : X.env.qual ++ "<lambda>" = q := by rfl) (hg : Gl X x := by rfl) (hdb : (x == ("__debug__" : Str)) = false := by decide)
    (hse : starEach [e] X.env = (false, eval e X.env) :: starEach [] X.env := by rfl) (hpl : (backTo pos (starEach [] X.env)).any (·.1) = false := by rfl) : DE g k Λ X W (.Call (.Name x p) [e] [] pos) (bToldV ret en fbs ff) := fun ok tk => by
  obtain ⟨oc, od, kV, doc, pm, an, ct, osl, rfl, lk, hcd⟩ := TF.F.ex
  refine ⟨fun pins s σ H Q I ⟨ι, ρ, μ, r, l, m, e2, p⟩ => ?_⟩
  have hm : X.mg x = some (.ref ga) := by rw [ok.mg]; exact TF.mgx
  refine wpAny_Call_Name_kw (ld_glob I hg hm ?_ hdb)
  refine PySem.W.callWith_K (h₀ := X.base) I.ok.mod.kin (by rw [ok.K]; exact TF.F.kp) ?_ hse hpl
  rw [hse]
  refine Calls.spliced_cons (thn ((he ok tk).run pins s σ H _ I (go_E (X1 := True) (R := fun v H1 => ∃ n ι1 μ1, Ext ι H ι1 H1 ∧ MR g Λ ι1 H1 μ1 ∧ LR g Λ ι1 H1 σ ρ ∧ Rep g.K Λ ι1 H1 (.lam n) v ∧ (match fbs[n]? with
      | some fb => bTold ret en fb ρ μ1
      | none => none) = some r) l m e2 p.px fun d μ1 ι1 H1 v e1 e3 x1 m1 l1 r1 => ?_)) fun u s' ⟨v, H1, I1, r1, q1⟩ => ?_)
  · split at e3
    · exact ⟨_, ι1, μ1, x1, m1, l1, r1, e3⟩
    · cases e3
  obtain ⟨n, ι1, μ1, x1, m1, l1, ⟨f, c', q', o, e4, hf, nt, fr, hc, frc, hΛ2⟩, e5⟩ := q1
  rw [hΛ] at hΛ2
  obtain ⟨e6, params, body, scope, fb, hn, e7, hs, nf, hbind, hbody⟩ := hΛ2
  subst e6 e7 e4
  obtain rfl : u = Value.ref f := r1
  rw [hn] at e5
  refine Calls.spliced_nil ⟨I1.kIn, ?_⟩
  have hG : GivesTo X Ng x (defScope st) ga (.ref ca) (defBody st) a q' (TTold X.K (g.cls en) ret) := by
    rw [TF.body]
    refine told_gives TF.hge (by rw [ok.mg]; exact TF.mge) TF.hde fun f => ?_
    have := TF.n0
    cases Ng with
    | nil => cases this
    | cons n ns => rfl
  have rc : codeAny (model X.prog X.w) X.A (.call (.ref ga) ⟨[.ref f], []⟩) (CR C8.CX0 X.stack X.prog X.w H1 s' Q C8.E0) s' := by
    refine run_ofS (N := Ng) (ps := [a]) (us := [.ref f]) (vs := [.ref f]) (by rw [ok.K]; exact lk) (by rw [ok.K]; exact hcd) TF.S (ok.room.mono hk) I1.env0 ((show Binds X.K _ [a] [] by rw [ok.K]; exact TF.hb) s' [.ref f] I1.kIn rfl) (.cons rfl .nil) rfl fun hr' => ?_
    have hT : TTold X.K (g.cls en) ret (fun E H' Q' => H' f = some (LamO f q' params body scope c') ∧ rdE g Λ (fW E) fb σ H' Q') H1 Q := by
      refine ⟨hf, ?_⟩
      rw [ok.K]
      exact told_rd rfl TF.exm l1 m1 e5 (p.ext x1)
    obtain ⟨t', ht', hq'⟩ := hG f c' s' H1 Q (fun E H' Q' => H' f = some (LamO f q' params body scope c') ∧ rdE g Λ (fW E) fb σ H' Q')
      (fun WW pn xe E p1 p2 tk hW => pe_act0 (i := 0) I1 hs nf hq hbind tk hW hr' (fun A outer s H hr2 => hbody Λ X A outer s H E f c' (ok.lam hr2) (takes_of rfl rfl rfl rfl)) TF.n0 TF.va TF.hd TF.hcd) hc hT
    exact ⟨t', ht'.nox, hq'⟩
  refine wpAny_call (codeAny_mono rc fun r s2 hq => ?_)
  cases r with
  | error e => exact (show False from hq).elim
  | ok fl =>
    cases fl with
    | ret u => exact I1.after hq
    | next => exact False.elim hq
    | brk => exact False.elim hq
    | cont => exact False.elim hq
end
end Mi

set_option Elab.async false
set_option linter.all false
set_option maxRecDepth 100000
set_option maxHeartbeats 4000000
namespace Mi
open PySem L2
/-! ### a range with the step -1, list(range(n)), dicts -/
def dnD (i : Int) (n : Nat) : List D := (List.range n).map fun j => .int (i - (j : Nat))
def bRng3n (f : Cb (List D)) : Cb (List D) := fun ρ μ => ob (f ρ μ) fun ds μ1 => match ds with
  | [.int i, .int j, .int c] => if c = -1 ∧ (-4611686018427387904 ≤ i ∧ i < 4611686018427387904) ∧ -4611686018427387904 ≤ j ∧ j < 4611686018427387904 then some (.ok (dnD i (i - j).toNat) μ1) else none
  | _ => none
def bLstRg (f : Cb D) : Cb D := fun ρ μ => ob (f ρ μ) fun d μ1 => match d with
  | .int j => if 0 ≤ j ∧ j ≤ 16777216 then some (.ok (.lst (rngD 0 j.toNat)) μ1) else none
  | _ => none
def bVals : List (Key × Cb D) → Cb (List D)
  | [] => bNil
  | kf :: r => bCons kf.2 (bVals r)
def bDisp (kfs : List (Key × Cb D)) : Cb D := fun ρ μ => if kfs.length ≤ 15 ∧ (kfs.map (·.1)).Nodup then ob (bVals kfs ρ μ) fun xs μ1 => some (.ok (.dct (kfs.map (·.1)) xs) μ1) else none
def keyD : D → Option Key
  | .int i => some (.inl i)
  | .str x => some (.inr x)
  | _ => none
def valD : List Key → List D → Key → Option D
  | k :: ks, x :: xs, j => if k = j then some x else valD ks xs j
  | _, _, _ => none
def dGet (μ : Sto) (x y : D) : Option D := match keyD y with
  | some k => match x with
    | .dct ks xs => valD ks xs k
    | .ref n => match μ[n]? with
      | some (.dct ks xs) => valD ks xs k
      | _ => none
    | _ => none
  | none => none
section
variable {g : Gb} {k : Nat} {Λ : Lr} {X : Cx} {W : WX} {vs : List Nat} {a b c tg : Expr} {fa fb fc fo fi : Cb D} {pos pos' : Pos} {es : List Expr} {fs : Cb (List D)}
theorem itk_dn {ι : List Addr} {H : Hp} (i : Int) (n : Nat) : Itk g Λ ι H (Itc i (-1) n) (dnD i n) := fun Λ' _ ι2 H2 μ2 _ _ j => by
  have hl : (dnD i n).length = n := by unfold dnD; simp
  refine ⟨fun h => by rw [hl] at h; exact h, fun d hd => ?_⟩
  have hi : j < n := by
    have := (List.getElem?_eq_some_iff.mp hd).1
    rw [hl] at this; exact this
  refine ⟨hi, fun x H3 ⟨e1, e2⟩ => ?_⟩
  rw [e1, e2]
  unfold dnD at hd
  rw [List.getElem?_map, List.getElem?_range hi] at hd
  cases hd
  exact ⟨fun _ _ h => h, by show V.int _ = V.int _; congr 1; omega⟩
theorem di_rng3n {p : Pos} (hm : g.mg "range" = none) (ha : DA g k Λ X W [a, b, c] fs) (hg : Gl X "range" := by rfl) (hs : starEach [a, b, c] X.env = (false, eval a X.env) :: starEach [b, c] X.env := by rfl) (hpl : (backTo pos (starEach [b, c] X.env)).any (·.1) = false := by rfl) :
    DI g k Λ X W tg (.Call (.Name "range" p) [a, b, c] [] pos) (bRng3n fs) := fun ok tk =>
  PI.imp (pi_range3 hg (by rw [ok.mg]; exact hm) (ha ok tk) hs hpl) fun σ H R ⟨ι, ρ, μ, r, l, m, e, p⟩ => goI_A l m e (by cases r with | ok _ _ => trivial | exc _ _ => exact p) fun ds μ1 ι1 H1 us e1 e2 x1 m1 l1 r1 => by
    split at e2
    · split at e2
      · rename_i hj
        cases e2
        obtain ⟨v, u, w, rfl, rv, ru, rw'⟩ := r1.inv3
        cases rv; cases ru; cases rw'
        obtain ⟨rfl, hj⟩ := hj
        exact ⟨_, _, _, _, rfl, RgC.neg (by omega) (by omega) (by omega) (by omega), p ι1 H1 _ x1 m1 (itk_dn _ _)⟩
      · cases e2
    · cases e2
theorem rg_reps {ι : List Addr} {H : Hp} {j : Int} : Reps g.K Λ ι H (rngD 0 j.toNat) (rgV 0 j) := by
  have h1 : rngD 0 j.toNat = ((List.range j.toNat).map fun i => (0 + (i : Nat) : Int)).map .int := by unfold rngD; rw [List.map_map]; rfl
  have h2 : rgV 0 j = ((List.range j.toNat).map fun i => (0 + (i : Nat) : Int)).map V.int := by unfold rgV; rw [List.map_map, Int.sub_zero]; rfl
  rw [h1, h2]
  exact Reps.of_ints
theorem de_lstRg {p p2 pos pos2 : Pos} (hm : g.mg "list" = none) (hmr : g.mg "range" = none) (ha : DE g k Λ X W a fa) (hg : Gl X "list" := by rfl) (hgr : Gl X "range" := by rfl) (na : starEach [a] X.env = (false, eval a X.env) :: starEach [] X.env := by rfl)
    (na2 : starEach [.Call (.Name "range" p2) [a] [] pos2] X.env = (false, eval (.Call (.Name "range" p2) [a] [] pos2) X.env) :: starEach [] X.env := by rfl) : DE g k Λ X W (.Call (.Name "list" p) [.Call (.Name "range" p2) [a] [] pos2] [] pos) (bLstRg fa) := fun ok tk =>
  PE.imp (pe_listRg ok.calm hg (by rw [ok.mg]; exact hm) (prg_1 hgr (by rw [ok.mg]; exact hmr) (ha ok tk) na) na2) fun σ H Q ⟨ι, ρ, μ, r, l, m, e, p⟩ => go_E (X1 := True) l m e p.px fun d μ1 ι1 H1 v e1 e2 x1 m1 l1 r1 => by
    split at e2
    · split at e2
      · rename_i hz
        cases e2; cases r1
        refine ⟨_, rfl, RgOk.of_le (Int.le_refl 0) hz.2 (by omega) hz.1, fun q hq => ?_⟩
        obtain ⟨y1, y2, y3⟩ := new_lst m1 hq (rg_reps (g := g) (Λ := Λ))
        exact p _ _ _ (x1.trans y1) y2 y3
      · cases e2
    · cases e2
/-! displays -/
def tPs (g : Gb) (Λ : Lr) (W : WX) : List (Key × Cb D) → List (TE × TE)
  | [] => []
  | kf :: r => ((fun _ H Q => Q (kV kf.1) H), (fun σ H Q => ∃ Λ' : Lr, Λ'.lam = Λ.lam ∧ rdE g Λ' W kf.2 σ H Q)) :: tPs g Λ W r
def DPs (g : Gb) (k : Nat) (Λ : Lr) (X : Cx) (W : WX) (pos : Pos) (keys : List (Option Expr)) (values : List Expr) (kfs : List (Key × Cb D)) : Prop := XOk g k X → Takes X W → PPs X pos keys values (tPs g Λ W kfs)
theorem dps_nil : DPs g k Λ X W pos [] [] [] := fun _ _ => pps_nil
theorem dps_str {x : Str} {j : Nat} {p : Pos} {ks : List (Option Expr)} {es : List Expr} {kfs : List (Key × Cb D)} (h : ∀ Λ' : Lr, Λ'.lam = Λ.lam → DE g k Λ' X W a fa) (hr : DPs g k Λ X W pos ks es kfs) : DPs g k Λ X W pos (some (.Constant (.str x) j p) :: ks) (a :: es) ((.inr x, fa) :: kfs) := fun ok tk =>
  pps_cons (PE.imp pe_str fun _ _ _ h => h) (pe_any fun Λ' hl => h Λ' hl ok tk) (hr ok tk)
theorem dps_int {x : Int} {j : Nat} {p : Pos} {ks : List (Option Expr)} {es : List Expr} {kfs : List (Key × Cb D)} (h : ∀ Λ' : Lr, Λ'.lam = Λ.lam → DE g k Λ' X W a fa) (hr : DPs g k Λ X W pos ks es kfs) : DPs g k Λ X W pos (some (.Constant (.int x) j p) :: ks) (a :: es) ((.inl x, fa) :: kfs) := fun ok tk =>
  pps_cons (PE.imp pe_int fun _ _ _ h => h) (pe_any fun Λ' hl => h Λ' hl ok tk) (hr ok tk)
theorem ps_rd {p : Addr} {σ : St} {ρ : En} {r : Out (List D)} : ∀ (kfs : List (Key × Cb D)) (ι : List Addr) (H : Hp) (μ : Sto) (Q : List (V × V) → Hp → Prop), LR g (Λ.add p) ι H σ ρ → MR g (Λ.add p) ι H μ → bVals kfs ρ μ = some r →
    (match r with
      | .ok ds μ' => ∀ ι' H' us, Ext ι H ι' H' → MR g (Λ.add p) ι' H' μ' → Reps g.K (Λ.add p) ι' H' ds us → kfs.length = us.length → Q (((kfs.map (·.1)).zip us).map fun kv => (kV kv.1, kv.2)) H'
      | .exc c μ' => ∀ ι' H', Ext ι H ι' H' → MR g (Λ.add p) ι' H' μ' → W (.ref (g.cls c)) none σ H') → tPairs (tPs g Λ W kfs) σ H Q
  | [], ι, H, μ, Q, l, m, e, q => by cases e; exact q ι H [] (.refl _ _) m rfl rfl
  | kf :: kfs, ι, H, μ, Q, l, m, e, q => by
    refine ⟨Λ.add p, rfl, go_E (X1 := True) l m (show ob (kf.2 ρ μ) _ = some r from e) (fun c μ1 er => by subst er; exact q) fun d μ1 ι1 H1 v e1 e2 x1 m1 l1 r1 => ?_⟩
    cases q2 : bVals kfs ρ μ1 with
    | none => rw [q2] at e2; cases e2
    | some o =>
      rw [q2] at e2
      refine ps_rd kfs ι1 H1 μ1 _ l1 m1 q2 ?_
      cases o with
      | exc c μ2 => cases e2; exact fun ι' H' x' m' => q ι' H' (x1.trans x') m'
      | ok ds μ2 =>
        cases e2
        exact fun ι' H' us x' m' rs hl => q ι' H' (v :: us) (x1.trans x') m' ⟨v, us, rfl, Rep.ext x' d r1, rs⟩ (by simp [hl])
theorem any_false {ks : List Key} {us : List V} {k : Key} (h : k ∉ ks) : ((ks.zip us).any fun kv => decide (kv.1 = k)) = false := by
  rw [List.any_eq_false]
  intro x hx
  have := (List.of_mem_zip (a := x.1) (b := x.2) hx).1
  simp only [decide_eq_true_eq]
  intro e
  rw [e] at this
  exact h this
theorem merge_nodup : ∀ (ks : List Key) (us : List V) (ks0 : List Key) (us0 : List V), ks0.length = us0.length → (ks0 ++ ks).Nodup → mergeK (ks0.zip us0) (ks.zip us) = ks0.zip us0 ++ ks.zip us
  | [], us, ks0, us0, hl, hn => by simp [mergeK]
  | k :: ks, [], ks0, us0, hl, hn => by simp [mergeK]
  | k :: ks, u :: us, ks0, us0, hl, hn => by
    have hk : k ∉ ks0 := by
      intro hm
      have := (List.nodup_append.mp hn).2.2 k hm k List.mem_cons_self
      exact this rfl
    have e : putK (ks0.zip us0) k u = (ks0 ++ [k]).zip (us0 ++ [u]) := by
      unfold putK
      rw [any_false hk, if_neg (by decide), List.zip_append hl]
      rfl
    show mergeK (putK (ks0.zip us0) k u) (ks.zip us) = _
    rw [e, merge_nodup ks us (ks0 ++ [k]) (us0 ++ [u]) (by simp [hl]) (by simpa using hn), List.zip_append hl]
    simp
theorem zip_fst : ∀ {ks : List Key} {us : List V}, ks.length = us.length → (ks.zip us).map (·.1) = ks
  | [], _, _ => by simp
  | k :: ks, [], h => by cases h
  | k :: ks, u :: us, h => by simp [zip_fst (ks := ks) (us := us) (by simpa using h)]
theorem zip_snd : ∀ {ks : List Key} {us : List V}, ks.length = us.length → (ks.zip us).map (·.2) = us
  | [], [], _ => by simp
  | [], _ :: _, h => by cases h
  | k :: ks, [], h => by cases h
  | k :: ks, u :: us, h => by simp [zip_snd (ks := ks) (us := us) (by simpa using h)]
theorem de_disp {keys : List (Option Expr)} {values : List Expr} {kfs : List (Key × Cb D)} (h : DPs g k Λ X W pos keys values kfs) (hall : keys.all (·.isSome) = true := by rfl) (hl : keys.length = values.length := by rfl) (h0 : keys ≠ [] := by intro z; cases z) (h15 : keys.length ≤ 15 := by decide) : DE g k Λ X W (.Dict keys values pos) (bDisp kfs) := fun ok tk =>
  PE.imp (pe_disp (h ok tk) hall hl h0 h15) fun σ H Q ⟨ι, ρ, μ, r, l, m, e, p⟩ => by
    unfold bDisp at e
    split at e
    · rename_i hk
      intro q hq
      have fr := m.fresh hq
      have lq : LR g (Λ.add q) ι (upd H q (.dK [])) σ ρ := LR.add l hq
      have mq : MR g (Λ.add q) ι (upd H q (.dK [])) μ := m.add hq (by intro ps z; cases z)
      have x0 : Ext ι H ι (upd H q (.dK [])) := .of_sam (sam_upd hq)
      cases q2 : bVals kfs ρ μ with
      | none => rw [q2] at e; cases e
      | some o =>
        rw [q2] at e
        refine ps_rd kfs ι _ μ _ lq mq q2 ?_
        cases o with
        | exc c μ2 => cases e; exact fun ι' H' x' m' => p ι' H' (x0.trans x') m'.sub
        | ok ds μ2 =>
          cases e
          intro ι' H' us x' m' rs hl
          have hd : H' q = some (.dK []) := x'.keep q _ upd_same (by intro ps z; cases z) fr.1
          have nq : q ∉ ι' := x'.notin upd_same (by intro ps z; cases z) fr.1
          have hl' : (kfs.map (·.1)).length = us.length := by simpa using hl
          refine ⟨hd, (kfs.map (·.1)).zip us, rfl, by rw [List.length_zip]; simp; omega, ?_⟩
          have em : mergeK [] ((kfs.map (·.1)).zip us) = (kfs.map (·.1)).zip us := by
            have := merge_nodup (kfs.map (·.1)) us [] [] rfl (by simpa using hk.2)
            simpa using this
          rw [em]
          have avq : q ∈ (Λ.add q).av := List.mem_cons_self
          have hnq : ∀ c z, H' q ≠ some (LamX.CodeO c z) := fun c z e => by rw [hd] at e; unfold LamX.CodeO at e; cases e
          refine p ι' _ (.ref q) ?_ (m'.out avq nq hd (by intro ps z; cases z) (by intro c z e; unfold LamX.CodeO at e; cases e) (by intro ps z; cases z)).sub ?_
          · have x2 := x0.trans x'
            refine ⟨x2.pre, fun b o hb nt ni => ?_, fun b n => x2.nt b ?_⟩
            · rw [upd_ne (ne_of_none hb hq)]
              exact x2.keep b o hb nt ni
            · intro o eo
              by_cases z : b = q
              · rw [z] at n
                exact (n.no upd_same (by intro ps z; cases z)).elim
              · exact n o (by rw [upd_ne z]; exact eo)
          · refine ⟨q, (kfs.map (·.1)).zip us, rfl, .inl upd_same, ⟨nq, fr.2⟩, zip_fst hl', ?_⟩
            rw [zip_snd hl']
            exact Reps.sub ds (Reps.out avq hnq ds rs)
    · cases e
/-! a look-up -/
theorem val_rd {ι : List Addr} {H : Hp} {j : Key} {d : D} : ∀ {ks : List Key} {xs : List D} {kvs : List (Key × V)}, kvs.map (·.1) = ks → Reps g.K Λ ι H xs (kvs.map (·.2)) → valD ks xs j = some d → ∃ v, valV kvs j = some v ∧ Rep g.K Λ ι H d v
  | [], _, _, _, _, e => by cases ‹List D› <;> cases e
  | k :: ks, [], _, _, _, e => by cases e
  | k :: ks, x :: xs, [], h, _, e => by cases h
  | k :: ks, x :: xs, kv :: kvs, h, hr, e => by
    rw [List.map_cons, List.cons.injEq] at h
    obtain ⟨v, r, h1, h2, h3⟩ := hr
    rw [List.map_cons, List.cons.injEq] at h1
    unfold valD at e
    split at e
    · rename_i q
      cases e
      exact ⟨kv.2, valV_pos (h.1.trans q), by rw [h1.1]; exact h2⟩
    · rename_i q
      obtain ⟨u, y1, y2⟩ := val_rd (ks := ks) (xs := xs) (kvs := kvs) h.2 (by rw [h1.2]; exact h3) e
      exact ⟨u, by rw [valV_neg (by rw [h.1]; exact q)]; exact y1, y2⟩
theorem keyD_rep {ι : List Addr} {H : Hp} {d : D} {v : V} {j : Key} (r : Rep g.K Λ ι H d v) (h : keyD d = some j) : v = kV j := by
  cases d <;> first | (cases h; cases r; rfl) | (cases h; done)
theorem de_get (ha : DE g k Λ X W a fa) (hb : DE g k Λ X W b fb) (hs : NoSl b := by intro _ _; rfl) : DE g k Λ X W (.Subscript a b pos) (bBin dGet fa fb) := fun ok tk =>
  PE.imp (pe_dget (by have := ok.room.units; omega) (ha ok tk) (hb ok tk) hs) fun σ H Q ⟨ι, ρ, μ, r, l, m, e, p⟩ => by
    refine go_E (X1 := True) l m e p.px fun d μ1 ι1 H1 v e1 e2 x1 m1 l1 r1 => ?_
    refine go_E (X1 := True) l1 m1 e2 (p.ext x1).px fun d2 μ2 ι2 H2 v2 _ e3 x2 m2 l2 r2 => ?_
    obtain ⟨z, hz, rfl⟩ := rt_some e3
    have rd := r1.ext x2
    unfold dGet at hz
    split at hz
    · rename_i j hj
      have hv := keyD_rep r2 hj
      split at hz
      · obtain ⟨ad, kvs, rfl, h2, h3, h4, h5⟩ := rd
        obtain ⟨w, y1, y2⟩ := val_rd h4 h5 hz
        exact ⟨ad, w, rfl, .inl ⟨kvs, j, h2, hv, y1.symm⟩, (p.ext x1).ext x2 ι2 H2 w (.refl _ _) m2 y2⟩
      · rename_i n
        split at hz
        · rename_i ks xs hn
          obtain ⟨ad, rfl, had⟩ := rd
          obtain ⟨b', h3, kvs, h4, h5, h6⟩ := m2.ob n _ hn
          rw [had] at h3
          cases h3
          obtain ⟨w, y1, y2⟩ := val_rd h5 (Reps.of_pure xs h6) hz
          exact ⟨ad, w, rfl, .inl ⟨kvs, j, .inl h4, hv, y1.symm⟩, (p.ext x1).ext x2 ι2 H2 w (.refl _ _) m2 y2⟩
        · cases hz
      · cases hz
    · cases hz
end
end Mi

set_option Elab.async false
set_option linter.all false
set_option maxRecDepth 100000
set_option maxHeartbeats 4000000
namespace Mi
open PySem PySem.Spec PyProof.Rows L2 LamX
/-! ### generator expressions whose element is a plain test of the walked item -/
def FV : D → Value → Prop
  | .int i, v => ∃ t, v = .int i t
  | .str x, v => ∃ t, v = .str x t
  | .bl b, v => v = .bool b
  | _, _ => False
def EltQ (prog : Program) (w : World) (scope : Scope) (x : Str) (elt : Expr) (f : D → Option D) : Prop :=
  ∀ (cenv : Env) (A' : Around) (E' : Value → Shared → Prop) (d r : D) (v : Value) (s₂ : Shared) (m₂ : Str → Option Value), cenv.scope = scope → FV d v → f d = some r → s₂.heap.Ns cenv.locals m₂ → m₂ x = some v →
    wpAny (model prog w) A' (eval elt cenv) (fun y s₃ => FV r y ∧ Keeps s₂ s₃) E' s₂
theorem keeps_trans {a b c : Shared} (h : Keeps a b) (k : Keeps b c) : Keeps a c := by
  obtain ⟨h1, t1, rfl, k1⟩ := h
  obtain ⟨h2, t2, rfl, k2⟩ := k
  exact ⟨h2, t2, rfl, fun x o e => k2 x o (k1 x o e)⟩
theorem keeps_ns {a b : Shared} {l : Addr} {m : Str → Option Value} (h : Keeps a b) (n : a.heap.Ns l m) : b.heap.Ns l m := by
  obtain ⟨h1, t1, rfl, k1⟩ := h
  exact n.keeps k1
def qCon (d : D) : D → Option D := fun _ => some d
def qVar : D → Option D := some
def qBin (o : Sto → D → D → Option D) (f1 f2 : D → Option D) : D → Option D := fun d => match f1 d, f2 d with
  | some a, some b => o [] a b
  | _, _ => none
def qChain (o1 o2 : Sto → D → D → Option D) (f1 f2 f3 : D → Option D) : D → Option D := fun d => match f1 d, f2 d with
  | some a, some b => match o1 [] a b with
    | some (.bl true) => match f3 d with
      | some c => o2 [] b c
      | none => none
    | some (.bl false) => some (.bl false)
    | _ => none
  | _, _ => none
def qNot (f : D → Option D) : D → Option D := fun d => match f d with
  | some (.bl b) => some (.bl (!b))
  | _ => none
def FOp (f : Value → Value → Sem Value) (o : Sto → D → D → Option D) : Prop := ∀ (prog : Program) (w : World) (A : Around) (E : Value → Shared → Prop) (d e r : D) (v u : Value) (s : Shared) (Q : Value → Shared → Prop), FV d v → FV e u → o [] d e = some r → (∀ y s', FV r y → Keeps s s' → Q y s') → wpAny (model prog w) A (f v u) Q E s
theorem fop_I {f : Value → Value → Sem Value} {c : Int → Int → Bool} (h : ∀ (prog : Program) (w : World) (A : Around) (E : Value → Shared → Prop) (a b : Int) (t u : Tok) (s : Shared) (Q : Value → Shared → Prop), Q (.bool (c a b)) s → wpAny (model prog w) A (f (.int a t) (.int b u)) Q E s) : FOp f (dI (fun _ _ => true) fun i j => .bl (c i j)) := by
  intro prog w A E d e r v u s Q h1 h2 h3 h4
  unfold dI at h3
  split at h3
  · simp at h3
    subst h3
    obtain ⟨t, rfl⟩ := h1
    obtain ⟨t', rfl⟩ := h2
    exact h _ _ _ _ _ _ _ _ _ _ (h4 _ _ rfl (GxR.keeps_refl _))
  · cases h3
theorem fop_le : FOp (compareOp .LtE) dLe := fop_I fun _ _ _ _ _ _ _ _ _ _ h => PySem.P.le_int h
theorem fop_lt : FOp (compareOp .Lt) dLt := fop_I fun _ _ _ _ _ _ _ _ _ _ h => PySem.P.lt_int h
theorem fop_ge : FOp (compareOp .GtE) dGe := fop_I fun _ _ _ _ _ _ _ _ _ _ h => PySem.P.ge_int h
theorem fop_gt : FOp (compareOp .Gt) dGt := fop_I fun _ _ _ _ _ _ _ _ _ _ h => PySem.P.gt_int h
theorem sign1 {s : Str} {c : Nat} (hc : s.cps.toList = [c]) : s = ⟨#[c]⟩ := by
  cases s with
  | mk cps =>
    have : cps = #[c] := by rw [← Array.toArray_toList (xs := cps), hc]
    rw [this]
def dNinT (μ : Sto) : D → D → Option D
  | .str s, .str z => dNin μ (.str s) (.str z)
  | _, _ => none
theorem fop_nin : FOp (compareOp .NotIn) dNinT := by
  intro prog w A E d e r v u s Q h1 h2 h3 h4
  unfold dNinT at h3
  split at h3
  · rename_i x z
    unfold dNin at h3
    cases hr : dInB [] (.str x) (.str z) with
    | none => rw [hr] at h3; cases h3
    | some rr =>
      rw [hr] at h3
      cases h3
      unfold dInB at hr
      dsimp only at hr
      split at hr
      · rename_i c hc
        cases hr
        obtain ⟨t, rfl⟩ := h1
        obtain ⟨t', rfl⟩ := h2
        rw [sign1 hc]
        refine PyProof.Rows.notIn_str (h4 _ _ ?_ (GxR.keeps_refl _))
        show Value.bool _ = Value.bool _
        rw [PySem.StrLaws.found_one]
      · cases hr
  · cases h3
section
variable {prog : Program} {w : World} {scope : Scope} {x : Str} {a b c : Expr} {f1 f2 f3 : D → Option D} {pos : Pos}
theorem eq_var (hk : scope.kind = .function := by rfl) (hl : scope.names.lookup x = some .local := by rfl) (hd : (x == ("__debug__" : Str)) = false := by decide) : EltQ prog w scope x (.Name x pos) qVar := by
  intro cenv A' E' d r v s₂ m₂ hs hv hf hn hm
  cases hf
  exact wpAny_Name (wpAny_loadName_local (by rw [hs]; exact hk) (show cenv.scope.names.lookup x = some .local by rw [hs]; exact hl) hn hm ⟨hv, GxR.keeps_refl _⟩) hd
theorem eq_str {z : Str} {j : Nat} : EltQ prog w scope x (.Constant (.str z) j pos) (qCon (.str z)) := by
  intro cenv A' E' d r v s₂ m₂ hs hv hf hn hm
  cases hf
  exact Calls.Constant_str ⟨⟨_, rfl⟩, GxR.keeps_tok _ _⟩
theorem eq_int {z : Int} {j : Nat} : EltQ prog w scope x (.Constant (.int z) j pos) (qCon (.int z)) := by
  intro cenv A' E' d r v s₂ m₂ hs hv hf hn hm
  cases hf
  exact wpAny_Constant_int ⟨⟨_, rfl⟩, GxR.keeps_tok _ _⟩
theorem eq_cmp {op : CmpOp} {o : Sto → D → D → Option D} (ho : FOp (compareOp op) o) (ha : EltQ prog w scope x a f1) (hb : EltQ prog w scope x b f2) (hm : behindInMarks op b = false := by with_unfolding_all rfl) : EltQ prog w scope x (.Compare a [op] [b] pos) (qBin o f1 f2) := by
  intro cenv A' E' d r v s₂ m₂ hs hv hf hn hmx
  unfold qBin at hf
  split at hf
  · rename_i y z h1 h2
    refine wpAny_Compare1 (wpAny_mono (ha cenv A' E' d y v s₂ m₂ hs hv h1 hn hmx) (fun u s3 ⟨q1, q2⟩ => wpAny_mono (hb cenv A' E' d z v s3 m₂ hs hv h2 (keeps_ns q2 hn) hmx) (fun u' s4 ⟨q3, q4⟩ => ?_) fun _ _ e => e) fun _ _ e => e) hm
    exact ho _ _ _ _ _ _ _ _ _ _ _ q1 q3 hf fun y s5 h5 k5 => ⟨h5, keeps_trans (keeps_trans q2 q4) k5⟩
  · cases hf
theorem eq_chain {op op' : CmpOp} {o1 o2 : Sto → D → D → Option D} (h1 : FOp (compareOp op) o1) (h2 : FOp (compareOp op') o2) (ha : EltQ prog w scope x a f1) (hb : EltQ prog w scope x b f2) (hc : EltQ prog w scope x c f3) (hm : lastMarks [op, op'] [b, c] = false := by with_unfolding_all rfl) :
    EltQ prog w scope x (.Compare a [op, op'] [b, c] pos) (qChain o1 o2 f1 f2 f3) := by
  intro cenv A' E' d r v s₂ m₂ hs hv hf hn hmx
  unfold qChain at hf
  split at hf
  · rename_i y z hy hz
    refine Compare_chain (wpAny_mono (ha cenv A' E' d y v s₂ m₂ hs hv hy hn hmx) (fun u s3 ⟨q1, q2⟩ => chain_link (wpAny_mono (hb cenv A' E' d z v s3 m₂ hs hv hz (keeps_ns q2 hn) hmx) (fun u' s4 ⟨q3, q4⟩ => ?_) fun _ _ e => e)) fun _ _ e => e) hm
    have k4 := keeps_trans q2 q4
    split at hf
    · rename_i ho
      refine h1 _ _ _ _ _ _ _ _ _ _ _ q1 q3 ho fun yy s5 h5 k5 => ?_
      cases (show yy = Value.bool true from h5)
      refine wpAny_truthy_bool ?_
      split at hf
      · rename_i cc hcc
        refine ite_tt (chain_last (wpAny_mono (hc cenv A' E' d cc v s5 m₂ hs hv hcc (keeps_ns (keeps_trans k4 k5) hn) hmx) (fun u6 s6 ⟨q6, k6⟩ => ?_) fun _ _ e => e))
        exact h2 _ _ _ _ _ _ _ _ _ _ _ q3 q6 hf fun y7 s7 h7 k7 => ⟨h7, keeps_trans (keeps_trans (keeps_trans k4 k5) k6) k7⟩
      · cases hf
    · rename_i ho
      refine h1 _ _ _ _ _ _ _ _ _ _ _ q1 q3 ho fun yy s5 h5 k5 => ?_
      cases (show yy = Value.bool false from h5)
      cases hf
      exact wpAny_truthy_bool (ite_ff ⟨rfl, keeps_trans k4 k5⟩)
    · cases hf
  · cases hf
theorem eq_not (ha : EltQ prog w scope x a f1) : EltQ prog w scope x (.UnaryOp .Not a pos) (qNot f1) := by
  intro cenv A' E' d r v s₂ m₂ hs hv hf hn hmx
  unfold qNot at hf
  split at hf
  · rename_i bb h1
    cases hf
    refine UnaryOp_ (wpAny_mono (ha cenv A' E' d _ v s₂ m₂ hs hv h1 hn hmx) (fun u s3 ⟨q1, q2⟩ => ?_) fun _ _ e => e)
    cases (show u = Value.bool bb from q1)
    exact not_of (wpAny_truthy_bool ⟨rfl, q2⟩)
  · cases hf
end
/-! the walked thing -/
def genSB (scope : Scope) (x : Str) : Bool := decide (scope.kind = .function) && !scope.isCoroutine && scope.names.all (fun y => !decide (y.2 = .cell)) && decide (scope.names.lookup (".0" : Str) = some NameKind.local) && decide (scope.names.lookup x = some .local) && noFree scope
theorem genS_by {env : Env} {scope : Scope} {x : Str} (h : genSB scope x = true) : GxR.GenS env scope x := by
  unfold genSB at h
  simp only [Bool.and_eq_true, decide_eq_true_eq, Bool.not_eq_true'] at h
  obtain ⟨⟨⟨⟨⟨h1, h2⟩, h3⟩, h4⟩, h5⟩, h6⟩ := h
  refine ⟨h1, h2, fun y hy e => ?_, h4, h5, fun y hy e => ?_⟩
  · have := List.all_eq_true.mp h3 y hy
    rw [e] at this
    simp at this
  · have := List.all_eq_true.mp h6 y hy
    rw [e] at this
    simp at this
/-- an iterator over ds, the object o just laid; P: what may change meanwhile -/
def Wk (X : Cx) (P : Addr) (s1 : Shared) (ds : List D) (o : Obj) : Prop :=
  ∃ (fp : List Addr) (Pf : Nat → Value → Prop) (St : Nat → Heap → Prop), (∀ A' : Around, A'.handled = none → Walks X.prog X.w A' s1.heap.objs.size fp [s1.heap.objs.size] ds.length Pf St) ∧ (∀ b ∈ fp, b ≤ s1.heap.objs.size) ∧
    (∀ h3 : Heap, (∀ b u, b ≠ P → (s1.heap.push o).get? b = some u → h3.get? b = some u) → St 0 h3) ∧ ∀ i v, Pf i v → ∃ d, ds[i]? = some d ∧ FV d v
def GenR (T : List (Addr × Str)) (X : Cx) (pins : List (Addr × Obj)) (σ : L2.St) (H1 : Hp) (ds : List D) (fe : D → Option D) (g : Addr) (s5 : Shared) : Prop :=
  ∃ (fp wr : List Addr) (G : Array GenState → Array GenState → Prop) (F : Nat → Value → Prop) (St : Nat → Shared → Prop),
    WalksS X.prog X.w X.A.in1 g fp wr G ds.length F St ∧ St 0 s5 ∧ (∀ j v, F j v → ∃ d r, ds[j]? = some d ∧ fe d = some r ∧ FV r v) ∧
    ∀ s', Moved wr G s5 s' → ∃ H2, ExtN H1 H2 ∧ Tabs T H2 ∧ Inv X pins σ H2 s'
section
variable {X : Cx} {pins : List (Addr × Obj)} {σ : L2.St} {H H1 : Hp} {s s1 : Shared}
theorem inv_gens {g' : Array GenState} {d' : Drawn} (I : Inv X pins σ H s) (hg : AllBare g') : Inv X pins σ H { s with gens := g', drawn := d' } :=
  I.step (g' := g') (d' := d') (t' := s.toks) (ch := []) (fun b hb => absurd hb (by simp)) (fun b o _ _ _ e n => e) (fun b o _ _ _ e n => ⟨o.slots, e⟩) (fun b o _ e n => n) (fun b o _ e => ⟨o, e⟩) (fun b xs e => e) (fun b o u e => e) (fun b qs e => ⟨#[], by simpa using e⟩) (fun m hn => hn) I.hok hg
theorem gen_pure {T : List (Addr × Str)} {c P : Addr} {elt iter : Expr} {x : Str} {px gpos : Pos} {scope : Scope} {fe : D → Option D} {te : TE} {k : Nat} {Q' : Value → Shared → Prop} {R : List D → Hp → Prop}
    (hr : Room k X.A) (TB : TabB X.base X.mg c P) (hcode : X.env.code = .ref c) (hmT : (P, X.env.qual ++ "<genexpr>") ∈ T) (hu : ∀ p ∈ T, p.1 = P → p.2 = X.env.qual ++ "<genexpr>") (S : GxR.GenS X.env scope x) (hi : PE X iter te) (hel : EltQ X.prog X.w scope x elt fe)
    (hs : ∀ v, genFold iter X.env v = pure v) (I : Inv X pins σ H s)
    (h : te σ H fun v H1 => ∃ ds : List D, Tabs T H1 ∧ R ds H1 ∧ (∀ d ∈ ds, ∃ r, fe d = some r) ∧ ∀ (xv : Value) (s1 : Shared) (Q : Value → Shared → Prop), Inv X pins σ H1 s1 → RelV v xv → (∀ o, Wk X P s1 ds o → Q (.ref s1.heap.objs.size) { s1 with heap := s1.heap.push o }) → wpAny (model X.prog X.w) X.A (pyIter xv) Q X.xe s1)
    (hQ : ∀ ds H1 g s5, R ds H1 → GenR T X pins σ H1 ds fe g s5 → Q' (.ref g) s5) :
    wpAny (model X.prog X.w) X.A (eval (.GeneratorExp elt [⟨.Name x px, iter, [], 0⟩] scope gpos) X.env) Q' X.xe s := by
  refine wpAny_GeneratorExp_walksQ hr.hd S.co (closure_ok S.free) S.cell S.dot S.loc S.kind (by have := hr.dp; omega) ?_ hs
  refine thn (hi.run pins s σ H _ I h) fun xv s1 ⟨v, H1, I1, r1, q1⟩ => ?_
  obtain ⟨ds, hT, hR, hfe, hit⟩ := q1
  refine hit xv s1 _ I1 r1 fun o hW => ?_
  obtain ⟨ps, hP, ht, hamong⟩ := hT _ hmT
  obtain ⟨fp, Pf, St, W, hfp, hst, hPf⟩ := hW
  have hPs : s1.heap.get? P = some { cls := .none, data := .fields ps } := I1.hok P _ hP
  have hPlt : P < s1.heap.objs.size := Heap.lt_size hPs
  have hP2 : (s1.heap.push o).get? P = some { cls := .none, data := .fields ps } := Heap.get?_push_of_some _ hPs
  have cd : PySem.W.CodeHd (s1.heap.push o) c P := TB.code.keeps fun b u e => Heap.get?_push_of_some _ (I1.bk b u e)
  have lim2 : (s1.heap.push o).NoLimit := I1.nolimit.push o
  have cont : ∀ (code : Value) (h3 : Heap) (tk : Nat), Heap.ExtBut P (s1.heap.push o) h3 → (s1.heap.push o).objs.size ≤ h3.objs.size →
      (∀ (s' : Shared), s'.os = s1.os → AllBare s'.gens → (∀ b u, b ≠ s1.heap.objs.size → b < h3.objs.size → h3.get? b = some u → s'.heap.get? b = some u) → ∃ H2, ExtN H1 H2 ∧ Tabs T H2 ∧ Inv X pins σ H2 s') →
      wpAny (model X.prog X.w) X.A (builtinsFor X.env.globals X.env.builtins) (fun bi s₄ =>
        ∃ Ia fp wr n₀ Pf St₀ pz F, Value.ref s1.heap.objs.size = .ref Ia ∧ (∀ A' : Around, A'.handled = none → Walks X.prog X.w A' Ia fp wr n₀ Pf St₀) ∧ St₀ 0 s₄.heap ∧ (∀ b ∈ fp, b < s₄.heap.objs.size) ∧ s₄.heap.NoLimit ∧ cStatics ∉ wr ∧
          (∀ href : Heap, (∀ b o, s₄.heap.get? b = some o → href.get? b = some o) →
            QuietGen X.prog X.w (genEnv scope (cloFrom X.env.cells scope.names []) s₄.heap.objs.size code bi X.env) x [] elt (List.range s₄.heap.objs.size) wr Pf pz F href) ∧
          (∀ a h₅ tk gs, gs.bare = true → s₄.heap.objs.size < a → h₅.objs.size = a + 1 → (∀ b o, s₄.heap.get? b = some o → h₅.get? b = some o) →
            WalksS X.prog X.w X.A.in4 a (a :: s₄.heap.objs.size :: List.range s₄.heap.objs.size) (s₄.heap.objs.size :: wr) (GenOnlyQ s₄.gens.size) (passing pz n₀ 0).length
              (fun j y => ∃ i, (passing pz n₀ 0)[j]? = some i ∧ F i y) (GenAt X.prog X.w X.A.in4 a s₄.gens.size s₄.heap.objs.size (List.range s₄.heap.objs.size) wr pz n₀ F) →
            GenAt X.prog X.w X.A.in4 a s₄.gens.size s₄.heap.objs.size (List.range s₄.heap.objs.size) wr pz n₀ F 0 { s₄ with gens := s₄.gens.push gs, toks := tk, heap := h₅ } →
            Q' (.ref a) { s₄ with gens := s₄.gens.push gs, toks := tk, heap := h₅ })) X.xe { s1 with heap := h3, toks := tk } := by
    intro code h3 tk hx hsz hfin
    obtain ⟨bm, ob, e1, e2, e3, e4, e5, e6, e7, e8⟩ := TB.bm
    have hcP : cStatics ≠ P := fun e => by
      obtain ⟨_, hns, _⟩ := I1.nolimit
      obtain ⟨o', es, ep, ho, hd, _⟩ := hns
      rw [e, hPs] at ho
      cases ho
      cases hd
    have hcl : cStatics < s1.heap.objs.size := let ⟨_, hns, _⟩ := I1.nolimit; hns.lt
    have sz2 : (s1.heap.push o).objs.size = s1.heap.objs.size + 1 := Heap.size_push ..
    have keep3 : ∀ b u, b ≠ P → s1.heap.get? b = some u → h3.get? b = some u := fun b u hb e => hx b u hb (Heap.get?_push_of_some _ e)
    refine wpAny_builtinsFor (m := X.mg) (by rw [I1.ok.glob]; exact ((I1.mod.glob.keeps I1.bk).push o).extBut hx TB.gP) e1 e2 (keep3 _ _ e4 (I1.bk _ _ e5)) e6 e7 e8 ?_
    refine ⟨s1.heap.objs.size, fp, [s1.heap.objs.size], ds.length, Pf, St, (fun _ => true), (fun i y => ∃ d r, ds[i]? = some d ∧ fe d = some r ∧ FV r y), rfl, W, ?_, ?_, lim2.extBut hx hcP, ?_, ?_, ?_⟩
    · exact hst h3 fun b u hb e => hx b u hb e
    · intro b hb
      have h8 : s1.heap.objs.size < h3.objs.size := by omega
      exact Nat.lt_of_le_of_lt (hfp b hb) h8
    · intro z
      rcases List.mem_cons.mp z with z | z
      · exact Nat.ne_of_lt hcl z
      · cases z
    · intro href hhref
      refine ⟨fun A' E' i v s₂ m₂ hA hPv hn hm hk => ?_, fun A' E' i v s₂ m₂ hA hPv hp hn hm hk => ?_⟩
      · simp only [List.forIn_nil]
        exact wpAny_pure ⟨rfl, GxR.keeps_refl _⟩
      · obtain ⟨d, hd, hv⟩ := hPf i v hPv
        obtain ⟨r, hr⟩ := hfe d (List.mem_of_getElem? hd)
        exact wpAny_mono (hel _ A' E' d r v s₂ m₂ rfl hv hr hn hm) (fun y s3 q => ⟨⟨d, r, hd, hr, q.1⟩, q.2⟩) fun _ _ e => e
    · intro g h5 tk5 gs hgb hag hsz5 hk5 W5 hat
      simp only [GxR.passing_true, List.length_range] at W5
      refine hQ ds H1 g _ hR ⟨_, _, _, _, _, W5.in4_1, hat, ?_, fun s' hm => ?_⟩
      · intro j v hv
        obtain ⟨i, hij, d, r, hd, hr, e⟩ := hv
        obtain ⟨hj, ej⟩ := List.getElem?_eq_some_iff.mp hij
        rw [List.getElem_range] at ej
        subst ej
        exact ⟨d, r, hd, hr, e⟩
      · refine hfin s' hm.os (AllBare.movedS (I1.bare.push hgb) hm) fun b u hb hlt e => ?_
        refine hm.heap b u ?_ (hk5 b u e)
        intro z
        rcases List.mem_cons.mp z with z | z
        · rw [z] at hlt
          exact Nat.lt_irrefl _ hlt
        · rcases List.mem_cons.mp z with z | z
          · exact hb z
          · cases z
  refine ⟨lim2, ?_⟩
  have sz2 : (s1.heap.push o).objs.size = s1.heap.objs.size + 1 := Heap.size_push ..
  cases hf : codeAmong gpos ps.toList with
  | none =>
    refine wpAny_genexprCodeX hcode (cd.code hP2 ht) (cd.tab hP2) hf fun c' h' tk hx hge hlt hco' hrec htab' _ => ?_
    obtain ⟨o1, vs, f1, tf, fl, tg, inF, tx, tt, op, _, _, _, _, _, _, _, _, _, htr, _⟩ := hco'
    refine cont _ h' tk hx (Nat.le_trans hge (Nat.le_of_lt hlt)) fun s' hos hbare hk => ?_
    obtain ⟨c2, oc, vs2, t2, e2, hoc, hd, hv⟩ := hrec
    cases e2
    have hge' : s1.heap.objs.size + 1 ≤ c' := by rw [← sz2]; exact hge
    have hge0 : s1.heap.objs.size ≤ c' := Nat.le_of_succ_le hge'
    have hgen : c' ≠ s1.heap.objs.size := Nat.ne_of_gt hge'
    have nC : H1 c' = none := I1.hok.fresh hge0
    have hlt' : ∀ b u, s1.heap.get? b = some u → b < h'.objs.size ∧ b ≠ s1.heap.objs.size := fun b u e => by
      have := Heap.lt_size e
      constructor
      · exact Nat.lt_trans (Nat.lt_of_lt_of_le this hge0) hlt
      · exact Nat.ne_of_lt (Heap.lt_size e)
    have J := inv_table (t' := s'.toks) (more := #[rawInt gpos.line, rawInt gpos.col, .ref c']) (h' := s'.heap) (q := X.env.qual ++ "<genexpr>") I1 hP
      (fun b u hb e => hk b u (hlt' b u e).2 (hlt' b u e).1 (hx b u hb (Heap.get?_push_of_some _ e)))
      (hk P _ (hlt' P _ hPs).2 (hlt' P _ hPs).1 htab'.2) hge0 ⟨oc, vs2, t2, hk c' _ hgen hlt hoc, hd, hv⟩
    have J2 := inv_gens (g' := s'.gens) (d' := s'.drawn) J hbare
    have es : ({ ({ s1 with heap := s'.heap, toks := s'.toks } : Shared) with gens := s'.gens, drawn := s'.drawn } : Shared) = s' := by
      cases s'
      cases hos
      rfl
    rw [es] at J2
    generalize hH1 : upd (upd H1 P (.tbl (ps ++ #[rawInt gpos.line, rawInt gpos.col, .ref c']))) c' (CodeO c' (X.env.qual ++ "<genexpr>")) = H2 at J2
    have hE : ExtN H1 H2 := fun b o e n => by
      rw [← hH1, upd_ne (ne_of_none e nC), upd_ne (fun z => n ps (Option.some.inj (e.symm.trans (by rw [z]; exact hP))))]
      exact e
    have eL : (ps ++ #[rawInt gpos.line, rawInt gpos.col, .ref c']).toList = ps.toList ++ [rawInt gpos.line, rawInt gpos.col, .ref c'] := by simp
    have hc1 : H2 c' = some (CodeO c' (X.env.qual ++ "<genexpr>")) := by rw [← hH1, upd_same]
    refine ⟨H2, hE, fun p hp => ?_, J2⟩
    by_cases hb : p.1 = P
    · rw [hu p hp hb, hb]
      refine ⟨_, by rw [← hH1, upd_ne (ne_of_none hP nC), upd_same], by rw [eL]; exact PySem.TriplesOk_snoc _ _ _ _ ht, fun p' cv hcv => ?_⟩
      rw [eL] at hcv
      rcases among_app _ ht hcv with z | z
      · obtain ⟨c0, e1, e2⟩ := hamong p' cv z
        exact ⟨c0, e1, hE _ _ e2 codeO_ne⟩
      · exact ⟨c', z, hc1⟩
    · obtain ⟨ps', a1, a2, a3⟩ := hT p hp
      refine ⟨ps', by rw [← hH1, upd_ne (ne_of_none a1 nC), upd_ne hb]; exact a1, a2, fun p' cv hcv => ?_⟩
      obtain ⟨c0, e1, e2⟩ := a3 p' cv hcv
      exact ⟨c0, e1, hE _ _ e2 codeO_ne⟩
  | some cv =>
    refine wpAny_genexprCode_hit hcode (cd.code hP2 ht) hf ?_
    refine cont cv (s1.heap.push o) s1.toks (Heap.ExtBut.refl _ _) (Nat.le_refl _) fun s' hos hbare hk => ?_
    have J := I1.kept (h' := s'.heap) (t' := s'.toks) fun b u e => hk b u (Nat.ne_of_lt (Heap.lt_size e)) (by rw [sz2]; exact Nat.lt_succ_of_lt (Heap.lt_size e)) (Heap.get?_push_of_some _ e)
    have J2 := inv_gens (g' := s'.gens) (d' := s'.drawn) J hbare
    have es : ({ ({ s1 with heap := s'.heap, toks := s'.toks } : Shared) with gens := s'.gens, drawn := s'.drawn } : Shared) = s' := by
      cases s'
      cases hos
      rfl
    rw [es] at J2
    exact ⟨H1, ExtN.refl _, hT, J2⟩
end
end Mi

set_option Elab.async false
set_option linter.all false
set_option maxRecDepth 100000
set_option maxHeartbeats 4000000
namespace Mi
open PySem PySem.Spec PyProof.Rows L2 LamX
def fvD : D → Bool
  | .int _ => true | .str _ => true | .bl _ => true | _ => false
def signsD (z : Str) : List D := z.cps.toList.map fun c => .str ⟨#[c]⟩
/-- the items of a text, a list, a tuple: flat ones -/
def gnItems (μ : Sto) : D → Option (List D)
  | .str z => some (signsD z)
  | d => match sqD μ d with
    | some xs => if xs.all fvD then some xs else none
    | none => none
def blsD (fe : D → Option D) : List D → Option (List Bool)
  | [] => some []
  | d :: ds => match fe d with
    | some (.bl b) => match blsD fe ds with
      | some bs => some (b :: bs)
      | none => none
    | _ => none
def bAnyG (ff : Cb D) (fe : D → Option D) : Cb D := fun ρ μ => ob (ff ρ μ) fun d μ1 => match gnItems μ1 d with
  | some ds => match blsD fe ds with
    | some bs => some (.ok (.bl (bs.any id)) μ1)
    | none => none
  | none => none
def bAllG (ff : Cb D) (fe : D → Option D) : Cb D := fun ρ μ => ob (ff ρ μ) fun d μ1 => match gnItems μ1 d with
  | some ds => match blsD fe ds with
    | some bs => some (.ok (.bl (bs.all id)) μ1)
    | none => none
  | none => none
theorem bls_get {fe : D → Option D} : ∀ {ds : List D} {bs : List Bool}, blsD fe ds = some bs → ds.length = bs.length ∧ ∀ (i : Nat) (d : D), ds[i]? = some d → ∃ b, fe d = some (.bl b) ∧ bs[i]? = some b
  | [], bs, h => by cases h; exact ⟨rfl, fun i d e => by simp at e⟩
  | d :: ds, bs, h => by
    unfold blsD at h
    split at h
    · rename_i b hb
      split at h
      · rename_i bs' hbs
        cases h
        obtain ⟨h1, h2⟩ := bls_get hbs
        refine ⟨by simp [h1], fun i d' e => ?_⟩
        cases i with
        | zero => simp at e; subst e; exact ⟨b, hb, rfl⟩
        | succ i => simpa using h2 i d' (by simpa using e)
      · cases h
    · cases h
theorem any_range (bs : List Bool) : (List.range bs.length).any (fun j => bs.getD j false) = bs.any id := by
  rw [Bool.eq_iff_iff, List.any_eq_true, List.any_eq_true]
  constructor
  · rintro ⟨j, hj, h⟩
    have hj' := List.mem_range.mp hj
    rw [List.getD_eq_getElem?_getD, List.getElem?_eq_getElem hj'] at h
    exact ⟨bs[j], List.getElem_mem hj', h⟩
  · rintro ⟨b, hb, h⟩
    obtain ⟨j, hj, e⟩ := List.getElem_of_mem hb
    refine ⟨j, List.mem_range.mpr hj, ?_⟩
    rw [List.getD_eq_getElem?_getD, List.getElem?_eq_getElem hj, e]
    exact h
theorem all_range (bs : List Bool) : (List.range bs.length).all (fun j => bs.getD j false) = bs.all id := by
  rw [Bool.eq_iff_iff, List.all_eq_true, List.all_eq_true]
  constructor
  · intro h b hb
    obtain ⟨j, hj, e⟩ := List.getElem_of_mem hb
    have := h j (List.mem_range.mpr hj)
    rw [List.getD_eq_getElem?_getD, List.getElem?_eq_getElem hj, e] at this
    exact this
  · intro h j hj
    have hj' := List.mem_range.mp hj
    rw [List.getD_eq_getElem?_getD, List.getElem?_eq_getElem hj']
    exact h _ (List.getElem_mem hj')
section
variable {g : Gb} {k : Nat} {Λ : Lr} {X : Cx} {W : WX} {pins : List (Addr × Obj)} {σ : L2.St} {H H1 : Hp} {s s1 : Shared}
theorem fv_rep {ι : List Addr} {d : D} {v : V} {u : Value} (r : Rep g.K Λ ι H d v) (hf : fvD d = true) (q : RelV v u) : FV d u := by
  cases d <;> first | (simp [fvD] at hf; done) | (cases r; exact q)
theorem fv_at {ι : List Addr} : ∀ {ds : List D} {vs : List V} {us : List Value}, Reps g.K Λ ι H ds vs → Vals vs us → ds.all fvD = true → us.length = ds.length ∧ ∀ (i : Nat) (u : Value), us[i]? = some u → ∃ d, ds[i]? = some d ∧ FV d u
  | [], _, _, h, r, _ => by cases (show _ = [] from h); cases r; exact ⟨rfl, fun i u e => by simp at e⟩
  | d :: ds, _, _, ⟨v, vs, h1, h2, h3⟩, r, hf => by
    subst h1
    cases r with
    | cons rv rr =>
      simp only [List.all_cons, Bool.and_eq_true] at hf
      obtain ⟨q1, q2⟩ := fv_at h3 rr hf.2
      refine ⟨by simp [q1], fun i u e => ?_⟩
      cases i with
      | zero => simp at e; subst e; exact ⟨d, rfl, fv_rep h2 hf.1 rv⟩
      | succ i => simpa using q2 i u (by simpa using e)
theorem it_lst {P : Addr} {a : Addr} {vs : List V} {ds : List D} {ι : List Addr} (I : Inv X pins σ H1 s1) (hP : ∃ ps, H1 P = some (.tbl ps)) (sq : SqL X.K H1 a vs) (hr : Reps g.K Λ ι H1 ds vs) (hf : ds.all fvD = true) {Q : Value → Shared → Prop}
    (hQ : ∀ o, Wk X P s1 ds o → Q (.ref s1.heap.objs.size) { s1 with heap := s1.heap.push o }) : wpAny (model X.prog X.w) X.A (pyIter (.ref a)) Q X.xe s1 := by
  obtain ⟨its, rv, hl, hz⟩ := I.list sq
  have hIL := hl.isList
  obtain ⟨hlen, hat⟩ := fv_at hr rv hf
  refine wpAny_pyIter_list hIL (hQ _ ?_)
  obtain ⟨ps, hP⟩ := hP
  have hPs : s1.heap.get? P = some { cls := .none, data := .fields ps } := I.hok P _ hP
  have haP : a ≠ P := fun z => by
    obtain ⟨_, e, hc1, _, hd1⟩ := _root_.id hIL
    rw [z, hPs] at e
    cases e
    cases hd1
  have halt : a < s1.heap.objs.size := by
    obtain ⟨_, e, _⟩ := _root_.id hIL
    exact Heap.lt_size e
  have hn : its.toArray.size = ds.length := by rw [List.size_toArray, hlen]
  refine ⟨[s1.heap.objs.size, a], (fun i v => its.toArray[i]? = some v), (fun i h => h.IsListIter s1.heap.objs.size a i ∧ h.IsList a its.toArray), fun A' hA => by rw [← hn]; exact Walks.list hA _ _ (Nat.ne_of_lt halt) _, fun b hb => ?_, fun h3 hk => ⟨?_, ?_⟩, fun i v hv => hat i v (by simpa using hv)⟩
  · rcases List.mem_cons.mp hb with z | z
    · exact Nat.le_of_eq z
    · rw [show b = a by simpa using z]; exact Nat.le_of_lt halt
  · have : (s1.heap.push { cls := .type "list_iterator", data := .fields #[.ref a, .int 0 0] }).IsListIter s1.heap.objs.size a 0 := ⟨_, Heap.get?_push_size _ rfl, rfl, rfl⟩
    exact this.at fun u e => hk _ u (fun z => by rw [← z] at hPs; exact Nat.lt_irrefl _ (Heap.lt_size hPs)) e
  · obtain ⟨ob, e, r⟩ := _root_.id hIL
    exact ⟨ob, hk _ _ haP (Heap.get?_push_of_some _ e), r⟩
theorem it_tup {P : Addr} {a : Addr} {vs : List V} {ds : List D} {ι : List Addr} (I : Inv X pins σ H1 s1) (hP : ∃ ps, H1 P = some (.tbl ps)) (sq : SqT X.K H1 a vs) (hr : Reps g.K Λ ι H1 ds vs) (hf : ds.all fvD = true) {Q : Value → Shared → Prop}
    (hQ : ∀ o, Wk X P s1 ds o → Q (.ref s1.heap.objs.size) { s1 with heap := s1.heap.push o }) : wpAny (model X.prog X.w) X.A (pyIter (.ref a)) Q X.xe s1 := by
  obtain ⟨its, rv, hl, hz⟩ := I.tuple sq
  have hIL : s1.heap.IsTuple a its.toArray := hl
  obtain ⟨hlen, hat⟩ := fv_at hr rv hf
  refine wpAny_pyIter_tuple hIL (hQ _ ?_)
  obtain ⟨ps, hP⟩ := hP
  have hPs : s1.heap.get? P = some { cls := .none, data := .fields ps } := I.hok P _ hP
  have haP : a ≠ P := fun z => by
    obtain ⟨_, e, hc1, _⟩ := _root_.id hIL
    rw [z, hPs] at e
    cases e
    cases hc1
  have halt : a < s1.heap.objs.size := by
    obtain ⟨_, e, _⟩ := _root_.id hIL
    exact Heap.lt_size e
  have hn : its.toArray.size = ds.length := by rw [List.size_toArray, hlen]
  refine ⟨[s1.heap.objs.size, a], (fun i v => its.toArray[i]? = some v), (fun i h => h.IsTupleIter s1.heap.objs.size a i ∧ h.IsTuple a its.toArray), fun A' hA => by rw [← hn]; exact Walks.tuple hA _ _ (Nat.ne_of_lt halt) _, fun b hb => ?_, fun h3 hk => ⟨?_, ?_⟩, fun i v hv => hat i v (by simpa using hv)⟩
  · rcases List.mem_cons.mp hb with z | z
    · exact Nat.le_of_eq z
    · rw [show b = a by simpa using z]; exact Nat.le_of_lt halt
  · have : (s1.heap.push { cls := .type "tuple_iterator", data := .fields #[.ref a, .int 0 0] }).IsTupleIter s1.heap.objs.size a 0 := ⟨_, Heap.get?_push_size _ rfl, rfl, rfl⟩
    exact this.at fun u e => hk _ u (fun z => by rw [← z] at hPs; exact Nat.lt_irrefl _ (Heap.lt_size hPs)) e
  · obtain ⟨ob, e, r⟩ := _root_.id hIL
    exact ⟨ob, hk _ _ haP (Heap.get?_push_of_some _ e), r⟩
theorem it_str {P : Addr} {z : Str} {t : Tok} (I : Inv X pins σ H1 s1) (hP : ∃ ps, H1 P = some (.tbl ps)) {Q : Value → Shared → Prop}
    (hQ : ∀ o, Wk X P s1 (signsD z) o → Q (.ref s1.heap.objs.size) { s1 with heap := s1.heap.push o }) : wpAny (model X.prog X.w) X.A (pyIter (.str z t)) Q X.xe s1 := by
  refine wpAny_pyIter_str fun o St W hst => hQ o ?_
  obtain ⟨ps, hP⟩ := hP
  have hPs : s1.heap.get? P = some { cls := .none, data := .fields ps } := I.hok P _ hP
  have hn : (signsD z).length = z.cps.size := by unfold signsD; simp
  refine ⟨[s1.heap.objs.size], SignAt z, St, by rw [hn]; exact W, fun b hb => by rw [show b = s1.heap.objs.size by simpa using hb]; exact Nat.le_refl _, fun h3 hk => ?_, fun i v hv => ?_⟩
  · refine (W { X.A with handled := none } rfl).frame _ _ _ hst fun b hb u e => hk b u (fun q => ?_) e
    rw [show b = s1.heap.objs.size by simpa using hb] at q
    rw [← q] at hPs
    exact Nat.lt_irrefl _ (Heap.lt_size hPs)
  · obtain ⟨c, u, hc, rfl⟩ := hv
    refine ⟨.str ⟨#[c]⟩, ?_, u, rfl⟩
    unfold signsD
    rw [List.getElem?_map, Array.getElem?_toList, hc]
    rfl
variable {c P : Addr} {elt iter : Expr} {x : Str} {px p pos gpos : Pos} {scope : Scope} {fe : D → Option D} {ff : Cb D}
theorem gn_rd {te : TE} {T : List (Addr × Str)} {ι : List Addr} {μ : Sto} {ds : List D} {d : D} {v : V} {q : Str} (ok : XOk g k X) (m : MR g Λ ι H1 μ) (hT : (P, q) ∈ g.T) (r : Rep g.K Λ ι H1 d v) (hd : gnItems μ d = some ds) :
    ∀ (xv : Value) (s1 : Shared) (Q : Value → Shared → Prop), Inv X pins σ H1 s1 → RelV v xv → (∀ o, Wk X P s1 ds o → Q (.ref s1.heap.objs.size) { s1 with heap := s1.heap.push o }) → wpAny (model X.prog X.w) X.A (pyIter xv) Q X.xe s1 := by
  intro xv s1 Q I rx hQ
  have hP : ∃ ps, H1 P = some (.tbl ps) := by
    obtain ⟨ps, h, _⟩ := m.tabs _ hT
    exact ⟨ps, h⟩
  unfold gnItems at hd
  split at hd
  · cases hd
    cases r
    obtain ⟨t, rfl⟩ := (show ∃ t, xv = Value.str _ t from rx)
    exact it_str I hP hQ
  · split at hd
    · rename_i xs hx
      split at hd
      · rename_i hf
        cases hd
        obtain ⟨a, vs, rfl, h2, h3⟩ := sq_rd m r hx
        obtain rfl : xv = Value.ref a := rx
        rcases h2 with h2 | h2
        · exact it_lst I hP (by rw [ok.K]; exact h2) h3 hf hQ
        · exact it_tup I hP (by rw [ok.K]; exact h2) h3 hf hQ
      · cases hd
    · cases hd
theorem de_anyG (hm : g.mg "any" = none) (TB : TabB g.base g.mg c P) (hmT : (P, X.env.qual ++ "<genexpr>") ∈ g.T) (hu : ∀ p ∈ g.T, p.1 = P → p.2 = X.env.qual ++ "<genexpr>") (hS : genSB scope x = true) (hi : DE g k Λ X W iter ff) (hel : EltQ g.P g.w scope x elt fe)
    (hg : Gl X "any" := by rfl) (hcode : X.env.code = .ref c := by rfl) (hs : ∀ v, genFold iter X.env v = pure v := by intro _; rfl)
    (he : starEach [.GeneratorExp elt [⟨.Name x px, iter, [], 0⟩] scope gpos] X.env = (false, eval (.GeneratorExp elt [⟨.Name x px, iter, [], 0⟩] scope gpos) X.env) :: starEach [] X.env := by rfl) :
    DE g k Λ X W (.Call (.Name "any" p) [.GeneratorExp elt [⟨.Name x px, iter, [], 0⟩] scope gpos] [] pos) (bAnyG ff fe) := fun ok tk => by
  refine ⟨fun pins s σ H Q I ⟨ι, ρ, μ, r, l, m, e, pp⟩ => ?_⟩
  refine wpAny_Call_Name_kw (ld_blt I hg (by rw [ok.mg]; exact hm) boot_any ?_)
  refine PyProof.Rows.callWith_builtin1 ?_ he (by rfl)
  rw [he]
  show wpAny _ _ (spliced ((false, eval (.GeneratorExp elt [⟨.Name x px, iter, [], 0⟩] scope gpos) X.env) :: backTo pos (starEach [] X.env))) _ _ s
  have hel' : EltQ X.prog X.w scope x elt fe := by rw [ok.P, ok.w]; exact hel
  refine Calls.spliced_cons (gen_pure (T := g.T) (R := fun ds H1 => ∃ bs, blsD fe ds = some bs ∧ ∀ H2, ExtN H1 H2 → Tabs g.T H2 → Q (.bl (bs.any id)) H2) ok.room (by rw [ok.base, ok.mg]; exact TB) hcode hmT hu (genS_by hS) (hi ok tk) hel' hs I
    (go_E (X1 := True) l m e pp.px fun d μ1 ι1 H1 v e1 e2 x1 m1 l1 r1 => ?_) fun ds H1 g' s5 hR hG => ?_)
  · split at e2
    · rename_i ds hds
      split at e2
      · rename_i bs hbs
        cases e2
        refine ⟨ds, m1.tabs, ⟨bs, hbs, fun H2 eN T2 => pp ι1 H2 (.bl (bs.any id)) (x1.trans (ext_of_n eN)) (m1.ofN eN T2) rfl⟩, fun d hd => ?_, gn_rd (te := fun _ _ _ => True) (T := g.T) ok m1 hmT r1 hds⟩
        obtain ⟨i, hi, ei⟩ := List.getElem_of_mem hd
        obtain ⟨b, hb, _⟩ := (bls_get hbs).2 i d (by rw [List.getElem?_eq_getElem hi, ei])
        exact ⟨_, hb⟩
      · cases e2
    · cases e2
  · obtain ⟨bs, hbs, hq⟩ := hR
    obtain ⟨fp, wr, G, F, St, WW, hst, hF, hI⟩ := hG
    obtain ⟨hlen, hget⟩ := bls_get hbs
    refine Calls.spliced_nil ?_
    refine call_any_walkS (WW.self 0 _ _ _ hst ⟨g', fp, wr, G, _, F, St, (fun j => bs.getD j false), rfl, WW, hst, fun i v sj Qj Ej hv hQj => ?_, fun s' hmv => ?_⟩)
    · obtain ⟨d, rr, hd, hr, hfv⟩ := hF i v hv
      obtain ⟨b, hb, hbi⟩ := hget i d hd
      rw [hr] at hb
      cases hb
      cases (show v = Value.bool b from hfv)
      have hQ2 : Qj (bs.getD i false) sj := hQj
      rw [List.getD_eq_getElem?_getD, hbi] at hQ2
      exact wpAny_truthy_bool hQ2
    · obtain ⟨H2, eN, T2, J⟩ := hI s' hmv
      refine ⟨.bl _, H2, J, rfl, ?_⟩
      rw [hlen, any_range]
      exact hq H2 eN T2
end
end Mi

set_option Elab.async false
set_option linter.all false
set_option maxRecDepth 100000
set_option maxHeartbeats 4000000
namespace Mi
open PySem PySem.Spec PyProof.Rows L2 LamX
/-! ### from what the head tells to the walk's facts -/
abbrev gOf (P : Program) (w : World) (K : PySem.W.Frag) (mg : Str → Option Value) (base : Heap) (T : List (Addr × Str)) : Gb := ⟨P, w, K, mg, base, T, fun x => He.ga K x⟩
def dDef (x : Str) (st : Stmt) : He.DefD := ⟨(x, none), x, x, defArgs st, defBody st, defScope st, [], []⟩
section
variable {K : PySem.W.Frag} {x : Str} {st : Stmt} {h : Heap} {mg : Str → Option Value} {g : Gb}
theorem funC_of {f : Addr} {fd : FuncData} {q : Str} (F : FunD K x q (defArgs st) (defBody st) (defScope st) [] [] f fd) : ∃ c, FunC K x q st f c fd := by
  obtain ⟨oc, od, dV, kV, doc, pm, an, cdv, ct, osl, e, lk, hcd, hD, hK⟩ := F.ex
  obtain ⟨c, rfl⟩ := He.codeIn_ref hcd
  rcases hD with ⟨_, rfl⟩ | ⟨z, _⟩
  · exact ⟨c, ⟨⟨oc, od, kV, doc, pm, an, ct, osl, e, lk, hcd⟩, F.kp⟩⟩
  · exact absurd rfl z
theorem FunC.code {f c : Addr} {fd : FuncData} {q : Str} (F : FunC K x q st f c fd) (hf : f = He.ga K x) : c = He.codeOf K (x, none) := by
  obtain ⟨oc, od, kV, doc, pm, an, ct, osl, e, lk, hcd⟩ := F.ex
  subst hf
  exact (He.codeOf_eq (p := (x, none)) lk (by rw [e])).symm
/-- a module's constant -/
theorem gc_int {i : Int} (X : K.In h) (G : h.Ns mainGlobals mg) (hk : g.K = K) (hm : g.mg = mg) (c : (He.Fa.int x i).ok K = true) : GC g x (.int i) := by
  obtain ⟨t, e⟩ := He.int_ok X G c
  exact ⟨⟨.int i t, .int i, by rw [hm]; exact e, ⟨t, rfl⟩, fun _ _ _ => rfl⟩⟩
theorem gc_str {z : Str} (X : K.In h) (G : h.Ns mainGlobals mg) (hk : g.K = K) (hm : g.mg = mg) (c : (He.Fa.str x z).ok K = true) : GC g x (.str z) := by
  obtain ⟨t, e⟩ := He.str_ok X G c
  exact ⟨⟨.str z t, .str z, by rw [hm]; exact e, ⟨t, rfl⟩, fun _ _ _ => rfl⟩⟩
def dvD : D → Option He.Dv
  | .non => some .non
  | .bl b => some (.bl b)
  | .int i => some (.int i)
  | .str z => some (.str z)
  | _ => none
def dvsD : List D → Option (List He.Dv)
  | [] => some []
  | d :: ds => match dvD d, dvsD ds with
    | some v, some vs => some (v :: vs)
    | _, _ => none
theorem dvs_rep {Λ : Lr} {ι : List Addr} {H : Hp} : ∀ {ds : List D} {vs : List He.Dv}, dvsD ds = some vs → Reps K Λ ι H ds (vs.map (He.Dv.v K))
  | [], vs, e => by cases e; rfl
  | d :: ds, vs, e => by
    unfold dvsD at e
    split at e
    · rename_i v vs' h1 h2
      cases e
      refine ⟨_, _, rfl, ?_, dvs_rep h2⟩
      cases d <;> first | (cases h1; rfl) | (cases h1; done)
    · cases e
theorem gc_tup {ds : List D} {vs : List He.Dv} (X : K.In h) (G : h.Ns mainGlobals mg) (hk : g.K = K) (hm : g.mg = mg) (c : (He.Fa.glo x).ok K = true) (ct : He.tupB K x vs = true) (hd : dvsD ds = some vs) : GC g x (.tup ds) := by
  refine ⟨⟨.ref (He.ga K x), .ref (He.ga K x), by rw [hm]; exact He.glo_ok X G c, rfl, fun Λ ι H => ⟨_, vs.map (He.Dv.v K), rfl, ?_, by rw [hk]; exact dvs_rep hd⟩⟩⟩
  have sq := He.tupB_ok ct (fun _ => none)
  rcases sq with h | h
  · rcases h with h | ⟨_, h⟩ <;> cases h
  · rw [hk]; exact .inr h
theorem ec_of (X : K.In h) (G : h.Ns mainGlobals mg) (hk : g.K = K) (hm : g.mg = mg) (hc : g.cls x = He.ga K x) (c : (He.Fa.glo x).ok K = true) (ce : (He.Fa.exc x).ok K = true) : EC g x := by
  obtain ⟨h1, h2, h3, h4⟩ := He.exc_ok ce
  exact ⟨by rw [hc, hk]; exact h1, by rw [hm, hc]; exact He.glo_ok X G c, by rw [hc, hk]; exact h2, by rw [hc, hk]; exact h3, by rw [hc, hk]; exact h4⟩
end
/-! ### tables -/
abbrev TQ := List (He.Defn × Str)
def tabT (tq : TQ) (K : PySem.W.Frag) : List (Addr × Str) := tq.map fun p => ((He.cT K p.1).2, p.2)
/-- the defs' tables are different objects -/
def tabsNd (tq : TQ) (K : PySem.W.Frag) : Bool := decide ((tq.map fun p => (He.cT K p.1).2).Nodup)
theorem tab_uniq {K : PySem.W.Frag} : ∀ {tq : TQ} {p : He.Defn × Str}, (tq.map fun p => (He.cT K p.1).2).Nodup → p ∈ tq → ∀ z ∈ tabT tq K, z.1 = (He.cT K p.1).2 → z.2 = p.2
  | [], p, _, h, _, _, _ => by cases h
  | t :: tq, p, nd, hp, z, hz, e => by
    rw [List.map_cons, List.nodup_cons] at nd
    have hz : z ∈ ((He.cT K t.1).2, t.2) :: tabT tq K := hz
    rcases List.mem_cons.mp hz with hz | hz
    · rcases List.mem_cons.mp hp with hp | hp
      · rw [hz, hp]
      · refine (nd.1 ?_).elim
        rw [hz] at e
        have e : (He.cT K t.1).2 = (He.cT K p.1).2 := e
        rw [e]
        exact List.mem_map.mpr ⟨p, hp, rfl⟩
    · rcases List.mem_cons.mp hp with hp | hp
      · refine (nd.1 ?_).elim
        obtain ⟨q, hq, eq⟩ := List.mem_map.mp (show z ∈ tq.map fun p => ((He.cT K p.1).2, p.2) from hz)
        rw [hp] at e
        rw [← e, ← eq]
        exact List.mem_map.mpr ⟨q, hq, rfl⟩
      · exact tab_uniq nd.2 hp z hz e
/-! ### the end -/
theorem cx_no {P : Program} {w : World} {H : Hp} {s s' : Shared} {e : Value} : L2.CX P w [] H s (fun _ _ _ => False) e s' → False := fun ⟨_, _, _, _, _, _, _, _, _, _, _, _, z⟩ => z
theorem sp_law {g : Gb} {F : FnS} {H : Hp} {a : Addr} {ns : List Int} (hT : LamX.Tabs g.T H) (sq : SqL g.K H a (ns.map V.int)) (hF : ∃ μ, F [.scr ns] [] = some (.ok (.bl true) μ)) : spM g 1 F [.ref a] H (fun v _ => v = .bl true) fun _ _ _ => False := by
  obtain ⟨μ, hF⟩ := hF
  refine ⟨rfl, ⟨fun _ _ _ _ _ => False, []⟩, [], [.scr ns], [], _, ⟨rfl, .nil, fun n so q => by simp at q, hT, fun a ha => by cases ha⟩, ⟨_, [], rfl, ⟨a, rfl, ?_⟩, rfl⟩, hF, fun ι' H' v e m r => r⟩
  rcases sq with h | h
  · exact .inl ⟨h, by simp, by simp⟩
  · exact .inr h
theorem sp_base {P : Program} {w : World} {K : PySem.W.Frag} {mg : Str → Option Value} {b b' : Heap} {T : List (Addr × Str)} {n : Nat} {F : FnS} {vs : List V} {H : Hp} {Q : VK} {E : XK} (h : spM (gOf P w K mg b T) n F vs H Q E) : spM (gOf P w K mg b' T) n F vs H Q E := by
  have to : ∀ {b b' : Heap} {Λ : Lr} {ι : List Addr} {H : Hp} {μ : Sto}, MR (gOf P w K mg b T) Λ ι H μ → MR (gOf P w K mg b' T) Λ ι H μ := fun {b b' Λ ι H μ} m => ⟨m.len, m.nd, fun n so q => by
    obtain ⟨a, h1, h2⟩ := m.ob n so q
    refine ⟨a, h1, ?_⟩
    cases so <;> exact h2, m.tabs, m.avs⟩
  obtain ⟨hn, Λ, ι, ds, μ, r, m, rs, hF, hq⟩ := h
  refine ⟨hn, Λ, ι, ds, μ, r, to m, rs, hF, ?_⟩
  cases r with
  | ok d μ' => exact fun ι' H' v e m' rv => hq ι' H' v e (to m') rv
  | exc c μ' => exact fun ι' H' e m' => hq ι' H' e (to m')
theorem law_end {l : PySem.W.OpenLaw} {m n k : Nat} {q : Program} {loose : List Str} {XP : (Str → Option Value) → Heap → Prop} {d : DefRec} {fa : List He.Fa} {fn : List He.DefD} {tq : TQ} {ex : PySem.W.Frag → Bool} {st : Stmt} {F : FnS} {x : Str}
    (hn : l.most = some n) (hn2 : n ≤ sizeLine) (hdf : d.params.defaults = []) (hr : Room k callerA) (hname : d.name = ("law" : Str)) (hlaw : dDef "law" st ∈ fn) (hglo : He.Fa.glo "law" ∈ fa)
    (hb1 : ∀ (kV doc pm : Value) (an : Option Addr) (cdv ct : Value) (us : List Value), us.length = [x].length → bindArgs (PySem.W.fnOf "law" "law" (defArgs st) (defBody st) (defScope st) .none kV doc pm an cdv ct) ⟨us, []⟩ = pure ([x].zip us))
    (facts : ∀ (w : World) (K : PySem.W.Frag) (mg : Str → Option Value) (h base : Heap), He.SaysX fa fn [] (tq.map (·.1)) ex w h K → K.In base → base.Ns mainGlobals mg → (∀ p ∈ tq, TabB base mg (He.cT K p.1).1 (He.cT K p.1).2) → FnC (gOf l.prog w K mg base (tabT tq K)) k "law" st [x] F)
    (math : ∀ ns : List Int, ns.length ≤ n → ∃ μ, F [.scr ns] [] = some (.ok (.bl true) μ)) :
    PySem.W.WalkO q loose XP (He.hookX m fa fn [] (tq.map (·.1)) ex).says l.row.toRowW d [] (fun f vs => PySem.call f vs) := by
  refine LamX.walk_ofTsE (l := l) (n := n) (k := k) (x := x) (CX := fun w => L2.CX l.prog w) hn hn2 hdf hr ?_ fun _ _ _ _ _ z => cx_no z
  intro w mg fA h Y G hmg
  obtain ⟨K, KX, c⟩ := Y
  rw [hname] at hmg
  obtain ⟨fd, FD⟩ := He.SaysD.defs c.t.d hlaw
  obtain ⟨cc, FC⟩ := funC_of (st := st) (q := "law") FD
  have eg := He.glo_ok KX G (He.SaysD.facts c.t.d hglo)
  have ef : fA = He.ga K "law" := by
    have := hmg.symm.trans eg
    cases this
    rfl
  subst ef
  refine ⟨K, KX, fd, tq.map fun p => He.cT K p.1, spM (gOf l.prog w K mg h (tabT tq K)) 1 F, ?_, ?_, ?_, ?_, ?_, ?_⟩
  · intro p hp
    obtain ⟨t, ht, rfl⟩ := List.mem_map.mp hp
    exact c.empty t.1 (List.mem_map.mpr ⟨t, ht, rfl⟩)
  · intro p hp
    obtain ⟨t, ht, rfl⟩ := List.mem_map.mp hp
    exact c.out t.1 (List.mem_map.mpr ⟨t, ht, rfl⟩)
  · intro p hp
    obtain ⟨t, ht, rfl⟩ := List.mem_map.mp hp
    exact PySem.W.codeHd_of_K KX (c.hd t.1 (List.mem_map.mpr ⟨t, ht, rfl⟩))
  · intro s u
    exact FunD.bindsA (ps := [x]) FD hb1 s [u] rfl
  · intro H a ns hl _ hT sq
    refine sp_law (g := gOf l.prog w K mg h (tabT tq K)) (fun p hp => ?_) sq (math ns hl)
    obtain ⟨t, ht, rfl⟩ := List.mem_map.mp hp
    exact TabS.nil (hT _ (List.mem_map.mpr ⟨t, ht, rfl⟩))
  · intro base KB GB TB
    obtain ⟨f', c', fd', h1, h2, h3⟩ := facts w K mg h base c KB GB fun p hp => TB _ (List.mem_map.mpr ⟨p, hp, rfl⟩)
    have e1 : f' = He.ga K "law" := by
      have h2 : mg "law" = some (Value.ref f') := h2
      have := h2.symm.trans eg
      cases this
      rfl
    subst e1
    have e2 := FunC.inj h1 FC
    subst e2
    exact FnOk.imp h3 fun vs H Q E z => sp_base z
end Mi

set_option Elab.async false
set_option linter.all false
set_option maxRecDepth 100000
set_option maxHeartbeats 4000000
namespace Mi
open PySem L2
/-! ### the mirror, read off -/
/-- an int as a text -/
def toS (i : Int) : Str := Str.ofString (toString i)
def anyR (fe : D → Option D) (o : Option (List D)) (μ1 : Sto) : Option (Out D) := match o with
  | some ds => match blsD fe ds with
    | some bs => some (.ok (.bl (bs.any id)) μ1)
    | none => none
  | none => none
/-- by a truth value -/
def onB {α : Type} (d : Option D) (a b : Option α) : Option α := match d with
  | some (.bl true) => a
  | some (.bl false) => b
  | _ => none
@[simp] theorem onB_s {α : Type} {c : Bool} {a b : Option α} : onB (some (.bl c)) a b = if c = true then a else b := by cases c <;> rfl
section
variable {μ : Sto} {ρ : En} {i j : Int} {x y : D} {s t : Str}
@[simp] theorem bVar_s {n : Nat} : bVar n ρ μ = (match ρ[n]? with | some (some d) => some (.ok d μ) | _ => none) := rfl
@[simp] theorem bCon_s {d : D} : bCon d ρ μ = some (.ok d μ) := rfl
@[simp] theorem bBin_s {o : Sto → D → D → Option D} {fa fb : Cb D} : bBin o fa fb ρ μ = ob (fa ρ μ) fun x μ1 => ob (fb ρ μ1) fun y μ2 => rt (o μ2 x y) μ2 := rfl
@[simp] theorem bNeg_s {fa : Cb D} : bNeg fa ρ μ = ob (fa ρ μ) fun x μ1 => (match x with | .int i => some (.ok (.int (-i)) μ1) | _ => none) := rfl
@[simp] theorem bTst_s {f : Cb D} : bTst f ρ μ = ob (f ρ μ) fun d μ1 => (match d with | .bl b => some (.ok b μ1) | _ => none) := rfl
@[simp] theorem bChain_s {o1 o2 : Sto → D → D → Option D} {fa fb fc : Cb D} : bChain o1 o2 fa fb fc ρ μ = ob (fa ρ μ) fun x μ1 => ob (fb ρ μ1) fun y μ2 => onB (o1 μ2 x y) (ob (fc ρ μ2) fun z μ3 => rt (o2 μ3 y z) μ3) (some (.ok (.bl false) μ2)) := by
  unfold bChain onB
  rfl
@[simp] theorem bAndT_s {fa fb : Cb Bool} : bAndT fa fb ρ μ = ob (fa ρ μ) fun b μ1 => if b then fb ρ μ1 else some (.ok false μ1) := rfl
@[simp] theorem bOrT_s {fa fb : Cb Bool} : bOrT fa fb ρ μ = ob (fa ρ μ) fun b μ1 => if b then some (.ok true μ1) else fb ρ μ1 := rfl
@[simp] theorem bNotT_s {fa : Cb Bool} : bNotT fa ρ μ = ob (fa ρ μ) fun b μ1 => some (.ok (!b) μ1) := rfl
@[simp] theorem bAnd_s {fa fb : Cb D} : bAnd fa fb ρ μ = ob (fa ρ μ) fun x μ1 => onB (some x) (fb ρ μ1) (some (.ok (.bl false) μ1)) := by
  unfold bAnd
  congr 1; funext x μ1
  cases x <;> first | rfl | (rename_i b; cases b <;> rfl)
@[simp] theorem bOr_s {fa fb : Cb D} : bOr fa fb ρ μ = ob (fa ρ μ) fun x μ1 => onB (some x) (some (.ok (.bl true) μ1)) (fb ρ μ1) := by
  unfold bOr
  congr 1; funext x μ1
  cases x <;> first | rfl | (rename_i b; cases b <;> rfl)
@[simp] theorem bNot_s {fa : Cb D} : bNot fa ρ μ = ob (fa ρ μ) fun x μ1 => (match x with | .bl b => some (.ok (.bl (!b)) μ1) | _ => none) := rfl
@[simp] theorem bIf_s {fc : Cb Bool} {fa fb : Cb D} : bIf fc fa fb ρ μ = ob (fc ρ μ) fun b μ1 => if b then fa ρ μ1 else fb ρ μ1 := rfl
@[simp] theorem bNil_s : bNil ρ μ = some (.ok [] μ) := rfl
@[simp] theorem bCons_s {fa : Cb D} {fr : Cb (List D)} : bCons fa fr ρ μ = ob (fa ρ μ) fun x μ1 => ob (fr ρ μ1) fun xs μ2 => some (.ok (x :: xs) μ2) := rfl
@[simp] theorem bTup_s {f : Cb (List D)} : bTup f ρ μ = ob (f ρ μ) fun xs μ1 => if xs.length ≤ 16777216 then some (.ok (.tup xs) μ1) else none := rfl
@[simp] theorem bLst_s {f : Cb (List D)} : bLst f ρ μ = ob (f ρ μ) fun xs μ1 => if xs.length ≤ 16777216 then some (.ok (.lst xs) μ1) else none := rfl
@[simp] theorem bLstM_s {f : Cb (List D)} : bLstM f ρ μ = ob (f ρ μ) fun xs μ1 => if xs.length ≤ 16777216 ∧ lamfs xs = true then some (.ok (.ref μ1.length) (μ1 ++ [.lst xs])) else none := rfl
@[simp] theorem bTru_s {f : Cb D} : bTru f ρ μ = ob (f ρ μ) fun d μ1 => rt (trD μ1 d) μ1 := rfl
@[simp] theorem bCallP_s {F : FnS} {fs : Cb (List D)} : bCallP F fs ρ μ = ob (fs ρ μ) fun ds μ1 => if purs ds = true then (match F ds [] with
  | some (.ok d _) => if pur d = true then some (.ok d μ1) else none
  | some (.exc c _) => some (.exc c μ1)
  | none => none) else none := rfl
@[simp] theorem bCallM_s {F : FnS} {fs : Cb (List D)} : bCallM F fs ρ μ = ob (fs ρ μ) fun ds μ1 => if lamfs ds = true then F ds μ1 else none := rfl
@[simp] theorem bCall0_s {F : FnS} : bCall0 F ρ μ = (match F [] [] with
  | some (.ok d _) => if pur d = true then some (.ok d μ) else none
  | _ => none) := rfl
@[simp] theorem bFn_s {o : Sto → List D → Option D} {fs : Cb (List D)} : bFn o fs ρ μ = ob (fs ρ μ) fun ds μ1 => rt (o μ1 ds) μ1 := rfl
@[simp] theorem cSeq_s {f1 f2 : Cs} : cSeq f1 f2 ρ μ = (match f1 ρ μ with | some (.nx ρ1 μ1) => f2 ρ1 μ1 | r => r) := rfl
@[simp] theorem cNop_s : cNop ρ μ = some (.nx ρ μ) := rfl
@[simp] theorem cExp_s {f : Cb D} : cExp f ρ μ = obS (f ρ μ) ρ fun _ μ1 => some (.nx ρ μ1) := rfl
@[simp] theorem cRet_s {f : Cb D} : cRet f ρ μ = obS (f ρ μ) ρ fun d μ1 => some (.rt d μ1) := rfl
@[simp] theorem cRetN_s : cRetN ρ μ = some (.rt .non μ) := rfl
@[simp] theorem cIf_s {t : Cb Bool} {f1 f2 : Cs} : cIf t f1 f2 ρ μ = obS (t ρ μ) ρ fun b μ1 => if b then f1 ρ μ1 else f2 ρ μ1 := rfl
@[simp] theorem cSet_s {n : Nat} {f : Cb D} : cSet n f ρ μ = obS (f ρ μ) ρ fun d μ1 => some (.nx (ρ.set n (some d)) μ1) := rfl
@[simp] theorem cPar2_s {a b : Nat} {f : Cb (List D)} : cPar2 a b f ρ μ = obS (f ρ μ) ρ fun ds μ1 => (match ds with
  | [d, e] => some (.nx ((ρ.set a (some d)).set b (some e)) μ1)
  | _ => none) := rfl
@[simp] theorem cPar3_s {a b c : Nat} {f : Cb (List D)} : cPar3 a b c f ρ μ = obS (f ρ μ) ρ fun ds μ1 => (match ds with
  | [d, e, f] => some (.nx (((ρ.set a (some d)).set b (some e)).set c (some f)) μ1)
  | _ => none) := rfl
@[simp] theorem cAsg_s {f : Cb D} {t : Tg} : cAsg f t ρ μ = obS (f ρ μ) ρ fun d μ1 => (match t d ρ μ1 with
  | some (ρ2, μ2) => some (.nx ρ2 μ2)
  | none => none) := rfl
@[simp] theorem tgName_s {n : Nat} {d : D} : tgName n d ρ μ = some (ρ.set n (some d), μ) := rfl
@[simp] theorem tgTup_s {ts : List Tg} {xs : List D} : tgTup ts (.tup xs) ρ μ = tgs ts xs ρ μ := rfl
@[simp] theorem tgs_nil_s : tgs [] [] ρ μ = some (ρ, μ) := rfl
@[simp] theorem tgs_cons_s {tt : Tg} {ts : List Tg} {d : D} {ds : List D} : tgs (tt :: ts) (d :: ds) ρ μ = (match tt d ρ μ with | some (ρ1, μ1) => tgs ts ds ρ1 μ1 | none => none) := rfl
@[simp] theorem cAug_s {n : Nat} {o : Sto → D → D → Option (D × Sto)} {f : Cb D} : cAug n o f ρ μ = (match ρ[n]? with
  | some (some x) => obS (f ρ μ) ρ fun y μ1 => (match o μ1 x y with
    | some (z, μ2) => some (.nx (ρ.set n (some z)) μ2)
    | none => none)
  | _ => none) := rfl
@[simp] theorem cRaise_s {c : Str} : cRaise c ρ μ = some (.ex c ρ μ) := rfl
@[simp] theorem cFor_s {f : Cb (List D)} {t : Tg} {b : Cs} : cFor f t b ρ μ = obS (f ρ μ) ρ fun ds μ1 => fl t b ds ρ μ1 := rfl
@[simp] theorem cWhile_s {n : Nat} {t : Cb Bool} {b : Cs} : cWhile n t b ρ μ = wl t b n ρ μ := rfl
theorem fnS_s {N : Nat} {body : Cs} {ds : List D} : fnS N body ds μ = (match body (ds.map some ++ List.replicate (N - ds.length) none) μ with
  | some (.nx _ μ') => some (.ok .non μ')
  | some (.rt d μ') => if lamf d = true then some (.ok d μ') else none
  | some (.ex c _ μ') => some (.exc c μ')
  | _ => none) := rfl
@[simp] theorem bItems_s {f : Cb D} : bItems f ρ μ = ob (f ρ μ) fun d μ1 => (match d with | .lst xs => some (.ok xs μ1) | .tup xs => some (.ok xs μ1) | _ => none) := rfl
@[simp] theorem bRng1_s {f : Cb (List D)} : bRng1 f ρ μ = ob (f ρ μ) fun ds μ1 => (match ds with
  | [.int j] => if -4611686018427387904 ≤ j ∧ j < 4611686018427387904 then some (.ok (rngD 0 j.toNat) μ1) else none
  | _ => none) := rfl
@[simp] theorem bRng2_s {f : Cb (List D)} : bRng2 f ρ μ = ob (f ρ μ) fun ds μ1 => (match ds with
  | [.int i, .int j] => if (-4611686018427387904 ≤ i ∧ i < 4611686018427387904) ∧ -4611686018427387904 ≤ j ∧ j < 4611686018427387904 then some (.ok (rngD i (j - i).toNat) μ1) else none
  | _ => none) := rfl
@[simp] theorem bComp_s {own : List Nat} {fit : Cb (List D)} {t : Tg} {fc : Cb Bool} {fe : Cb D} : bComp own fit t fc fe ρ μ = ob (fit ρ μ) fun ds μ1 => ob (cl t fc fe ds [] (wipeD ρ own) μ1) fun acc μ2 => some (.ok (.lst acc) μ2) := rfl
@[simp] theorem bYes_s : bYes ρ μ = some (.ok true μ) := rfl
@[simp] theorem bFmt_s {f : Cb D} : bFmt f ρ μ = ob (f ρ μ) fun d μ1 => (match d with
  | .str y => if y.length ≤ 16777216 then some (.ok (.str y) μ1) else none
  | .int i => if i.natAbs.log2 < 1920 then some (.ok (.str (toS i)) μ1) else none
  | _ => none) := rfl
@[simp] theorem bJs_nil {acc : Str} : bJs [] acc ρ μ = some (.ok (.str acc) μ) := rfl
@[simp] theorem bJs_cons {f : Cb D} {fs : List (Cb D)} {acc : Str} : bJs (f :: fs) acc ρ μ = ob (f ρ μ) fun d μ1 => (match d with
  | .str y => if (acc ++ y).length ≤ 16777216 then bJs fs (acc ++ y) ρ μ1 else none
  | _ => none) := rfl
@[simp] theorem bM1_s {o : Sto → Str → D → Option D} {fa fb : Cb D} : bM1 o fa fb ρ μ = ob (fa ρ μ) fun x μ1 => (match x with
  | .str a => ob (fb ρ μ1) fun y μ2 => rt (o μ2 a y) μ2
  | _ => none) := rfl
@[simp] theorem bAnyG_s {ff : Cb D} {fe : D → Option D} : bAnyG ff fe ρ μ = ob (ff ρ μ) fun d μ1 => anyR fe (gnItems μ1 d) μ1 := rfl
@[simp] theorem bNoPart_s : bNoPart ρ μ = some (.ok none μ) := rfl
@[simp] theorem bPart_s {f : Cb D} : bPart f ρ μ = ob (f ρ μ) fun d μ1 => (match d with
  | .int i => some (.ok (some i) μ1)
  | _ => none) := rfl
@[simp] theorem bSl_s {fa : Cb D} {fl fh : Cb (Option Int)} : bSl fa fl fh ρ μ = ob (fa ρ μ) fun x μ1 => ob (fl ρ μ1) fun lo μ2 => ob (fh ρ μ2) fun hi μ3 => rt (dSl μ3 x lo hi) μ3 := rfl
@[simp] theorem bRng3n_s {f : Cb (List D)} : bRng3n f ρ μ = ob (f ρ μ) fun ds μ1 => (match ds with
  | [.int i, .int j, .int c] => if c = -1 ∧ (-4611686018427387904 ≤ i ∧ i < 4611686018427387904) ∧ -4611686018427387904 ≤ j ∧ j < 4611686018427387904 then some (.ok (dnD i (i - j).toNat) μ1) else none
  | _ => none) := rfl
@[simp] theorem bDisp_s {kfs : List (Key × Cb D)} : bDisp kfs ρ μ = if kfs.length ≤ 15 ∧ (kfs.map (·.1)).Nodup then ob (bVals kfs ρ μ) fun xs μ1 => some (.ok (.dct (kfs.map (·.1)) xs) μ1) else none := rfl
@[simp] theorem bVals_nil : bVals [] = bNil := rfl
@[simp] theorem bVals_cons {kf : Key × Cb D} {r : List (Key × Cb D)} : bVals (kf :: r) = bCons kf.2 (bVals r) := rfl
/-! operations -/
@[simp] theorem dAdd_i : dAdd μ (.int i) (.int j) = some (.int (i + j)) := rfl
@[simp] theorem dAdd_s : dAdd μ (.str s) (.str t) = if s.length + t.length ≤ 16777216 then some (.str (s ++ t)) else none := rfl
@[simp] theorem dAdd_t {xs ys : List D} : dAdd μ (.tup xs) (.tup ys) = if xs.length + ys.length ≤ 16777216 then some (.tup (xs ++ ys)) else none := rfl
@[simp] theorem dAdd_l {xs ys : List D} : dAdd μ (.lst xs) (.lst ys) = if xs.length + ys.length ≤ 16777216 then some (.lst (xs ++ ys)) else none := rfl
@[simp] theorem dStr_i : dStr μ [.int i] = if i.natAbs.log2 < 1920 then some (.str (toS i)) else none := rfl
@[simp] theorem dSub_i : dSub μ (.int i) (.int j) = some (.int (i - j)) := rfl
@[simp] theorem dMul_i : dMul μ (.int i) (.int j) = if mulOk i j then some (.int (i * j)) else none := rfl
@[simp] theorem dDiv_i : dDiv μ (.int i) (.int j) = if divOk i j then some (.int (i / j)) else none := rfl
@[simp] theorem dMod_i : dMod μ (.int i) (.int j) = if modOk i j then some (.int (i % j)) else none := rfl
@[simp] theorem dLt_i : dLt μ (.int i) (.int j) = some (.bl (decide (i < j))) := rfl
@[simp] theorem dLe_i : dLe μ (.int i) (.int j) = some (.bl (decide (i ≤ j))) := rfl
@[simp] theorem dGt_i : dGt μ (.int i) (.int j) = some (.bl (decide (j < i))) := rfl
@[simp] theorem dGe_i : dGe μ (.int i) (.int j) = some (.bl (decide (j ≤ i))) := rfl
theorem beq_dec (i j : Int) : (i == j) = decide (i = j) := by rw [Bool.eq_iff_iff]; simp
@[simp] theorem dEq_i : dEq μ (.int i) (.int j) = some (.bl (decide (i = j))) := by show some (D.bl (i == j)) = _; rw [beq_dec]
@[simp] theorem dNe_i : dNe μ (.int i) (.int j) = some (.bl (!decide (i = j))) := by show some (D.bl (!(i == j))) = _; rw [beq_dec]
@[simp] theorem dEq_s : dEq μ (.str s) (.str t) = some (.bl (decide (s = t))) := rfl
@[simp] theorem dNe_s : dNe μ (.str s) (.str t) = some (.bl (!decide (s = t))) := rfl
@[simp] theorem dIx_t {xs : List D} : dIx μ (.tup xs) (.int i) = atI xs i := rfl
@[simp] theorem dIx_l {xs : List D} : dIx μ (.lst xs) (.int i) = atI xs i := rfl
@[simp] theorem dLen_l {xs : List D} : dLen μ [.lst xs] = some (.int xs.length) := rfl
@[simp] theorem dLen_t {xs : List D} : dLen μ [.tup xs] = some (.int xs.length) := rfl
@[simp] theorem dInt_i : dInt μ [.int i] = some (.int i) := rfl
@[simp] theorem dInt_b {b : Bool} : dInt μ [.bl b] = some (.int (if b then 1 else 0)) := rfl
@[simp] theorem dAbs_i : dAbs μ [.int i] = some (.int (if i < 0 then -i else i)) := rfl
@[simp] theorem dMax2_i : dMax2 μ [.int i, .int j] = some (.int (if j > i then j else i)) := rfl
@[simp] theorem dMin2_i : dMin2 μ [.int i, .int j] = some (.int (if j < i then j else i)) := rfl
@[simp] theorem dIAdd_i : dIAdd μ (.int i) (.int j) = some (.int (i + j), μ) := rfl
@[simp] theorem dISub_i : dISub μ (.int i) (.int j) = some (.int (i - j), μ) := rfl
end
end Mi

set_option Elab.async false
set_option linter.all false
set_option maxRecDepth 100000
set_option maxHeartbeats 4000000
namespace Mi
open PySem L2
/-! ### loops by invariants -/
theorem fl_run {t : Tg} {b : Cs} {I : Nat → En → Sto → Prop} : ∀ (ds : List D) (k : Nat), (∀ (i : Nat) (d : D) (ρ : En) (μ : Sto), ds[i]? = some d → I (k + i) ρ μ → ∃ ρ1 μ1 ρ2 μ2, t d ρ μ = some (ρ1, μ1) ∧ b ρ1 μ1 = some (.nx ρ2 μ2) ∧ I (k + i + 1) ρ2 μ2) →
    ∀ (ρ : En) (μ : Sto), I k ρ μ → ∃ ρ' μ', fl t b ds ρ μ = some (.nx ρ' μ') ∧ I (k + ds.length) ρ' μ'
  | [], k, _, ρ, μ, h => ⟨ρ, μ, rfl, h⟩
  | d :: ds, k, hs, ρ, μ, h => by
    obtain ⟨ρ1, μ1, ρ2, μ2, e1, e2, h2⟩ := hs 0 d ρ μ rfl h
    obtain ⟨ρ', μ', e3, h3⟩ := fl_run ds (k + 1) (fun i d' ρ μ hd hi => by
      have e : k + 1 + i = k + (i + 1) := by omega
      rw [e] at hi ⊢
      exact hs (i + 1) d' ρ μ (by simpa using hd) hi) ρ2 μ2 (by simpa using h2)
    refine ⟨ρ', μ', ?_, ?_⟩
    · show (match t d ρ μ with
        | some (ρ1, μ1) => (match b ρ1 μ1 with
          | some (.nx ρ2 μ2) => fl t b ds ρ2 μ2
          | some (.ct ρ2 μ2) => fl t b ds ρ2 μ2
          | some (.bk ρ2 μ2) => some (.nx ρ2 μ2)
          | r => r)
        | none => none) = _
      rw [e1]
      dsimp only
      rw [e2]
      exact e3
    · have e : k + 1 + ds.length = k + (d :: ds).length := by rw [List.length_cons]; omega
      rw [← e]; exact h3
theorem rngD_len (lo : Int) (n : Nat) : (rngD lo n).length = n := by unfold rngD; simp
theorem rngD_get {lo : Int} {n i : Nat} {d : D} (h : (rngD lo n)[i]? = some d) : i < n ∧ d = .int (lo + i) := by
  unfold rngD at h
  rw [List.getElem?_map] at h
  obtain ⟨j, h1, h2⟩ := Option.map_eq_some_iff.mp h
  obtain ⟨h3, h4⟩ := List.getElem?_eq_some_iff.mp h1
  simp at h3 h4
  exact ⟨h3, by rw [← h2, ← h4]⟩
theorem rng_run {t : Tg} {b : Cs} {I : Nat → En → Sto → Prop} (lo : Int) (n : Nat) (hs : ∀ (i : Nat) (ρ : En) (μ : Sto), i < n → I i ρ μ → ∃ ρ1 μ1 ρ2 μ2, t (.int (lo + i)) ρ μ = some (ρ1, μ1) ∧ b ρ1 μ1 = some (.nx ρ2 μ2) ∧ I (i + 1) ρ2 μ2) {ρ : En} {μ : Sto} (h : I 0 ρ μ) :
    ∃ ρ' μ', fl t b (rngD lo n) ρ μ = some (.nx ρ' μ') ∧ I n ρ' μ' := by
  have := fl_run (t := t) (b := b) (I := I) (rngD lo n) 0 (fun i d ρ μ hd hi => by
    obtain ⟨h1, rfl⟩ := rngD_get hd
    rw [Nat.zero_add] at hi ⊢
    exact hs i ρ μ h1 hi) ρ μ h
  rw [Nat.zero_add, rngD_len] at this
  exact this
/-- a for over a range, the store left alone, the state a function of the turn and the loop's name -/
theorem rng_tg {b : Cs} (v : Nat) (st : Nat → Option D → En) {μ : Sto} (lo : Int) (n : Nat) (hset : ∀ (i : Nat) (o : Option D) (d : D), (st i o).set v (some d) = st i (some d)) (hs : ∀ (i : Nat), i < n → b (st i (some (.int (lo + i)))) μ = some (.nx (st (i + 1) (some (.int (lo + i)))) μ)) (o : Option D) :
    ∃ o', fl (tgName v) b (rngD lo n) (st 0 o) μ = some (.nx (st n o') μ) := by
  obtain ⟨ρ', μ', h1, h2, o', h3⟩ := rng_run (t := tgName v) (b := b) (I := fun i ρ μ1 => μ1 = μ ∧ ∃ o, ρ = st i o) lo n (fun i ρ μ1 hi ⟨e1, o, e2⟩ => by
    subst e1 e2
    exact ⟨_, _, _, _, rfl, by rw [hset]; exact hs i hi, rfl, _, rfl⟩) (ρ := st 0 o) (μ := μ) ⟨rfl, o, rfl⟩
  subst h2 h3
  exact ⟨o', h1⟩
theorem wl_run {t : Cb Bool} {b : Cs} {I : Nat → En → Sto → Prop} (N : Nat) (step : ∀ (i : Nat) (ρ : En) (μ : Sto), i < N → I i ρ μ → t ρ μ = some (.ok true μ) ∧ ∃ ρ2 μ2, b ρ μ = some (.nx ρ2 μ2) ∧ I (i + 1) ρ2 μ2) (last : ∀ (ρ : En) (μ : Sto), I N ρ μ → t ρ μ = some (.ok false μ)) :
    ∀ (n i : Nat), N < n + i → i ≤ N → ∀ (ρ : En) (μ : Sto), I i ρ μ → ∃ ρ' μ', wl t b n ρ μ = some (.nx ρ' μ') ∧ I N ρ' μ'
  | 0, i, h, hi, ρ, μ, _ => by omega
  | n + 1, i, h, hi, ρ, μ, hI => by
    by_cases e : i = N
    · subst e
      have := last ρ μ hI
      refine ⟨ρ, μ, ?_, hI⟩
      unfold wl
      rw [this]
      simp
    · obtain ⟨h1, ρ2, μ2, h2, h3⟩ := step i ρ μ (by omega) hI
      obtain ⟨ρ', μ', h4, h5⟩ := wl_run N step last n (i + 1) (by omega) (by omega) ρ2 μ2 h3
      refine ⟨ρ', μ', ?_, h5⟩
      unfold wl
      rw [h1]
      simp [h2, h4]
/-- a while, the store left alone, the state a function of the turn -/
theorem wl_tg {t : Cb Bool} {b : Cs} (st : Nat → En) {μ : Sto} (N n : Nat) (hn : N < n) (step : ∀ i : Nat, i < N → t (st i) μ = some (.ok true μ) ∧ b (st i) μ = some (.nx (st (i + 1)) μ)) (last : t (st N) μ = some (.ok false μ)) :
    wl t b n (st 0) μ = some (.nx (st N) μ) := by
  obtain ⟨ρ', μ', h1, h2, h3⟩ := wl_run (t := t) (b := b) (I := fun i ρ μ1 => ρ = st i ∧ μ1 = μ) N (fun i ρ μ1 hi ⟨e1, e2⟩ => by
    subst e1 e2
    exact ⟨(step i hi).1, _, _, (step i hi).2, rfl, rfl⟩) (fun ρ μ1 ⟨e1, e2⟩ => by
    subst e1 e2
    exact last) n 0 (by omega) (Nat.zero_le _) (st 0) μ ⟨rfl, rfl⟩
  subst h2 h3
  exact h1
/-- a comprehension whose parts leave the store alone -/
theorem cl_pure {t : Tg} {fc : Cb Bool} {fe : Cb D} {ρ : En} {μ : Sto} (p : D → Bool) (f : D → D) : ∀ (ds acc : List D), (∀ d ∈ ds, ∃ ρ1, t d ρ μ = some (ρ1, μ) ∧ fc ρ1 μ = some (.ok (p d) μ) ∧ (p d = true → fe ρ1 μ = some (.ok (f d) μ))) → acc.length + ds.length ≤ 16777216 →
    cl t fc fe ds acc ρ μ = some (.ok (acc ++ (ds.filter p).map f) μ)
  | [], acc, _, _ => by simp [cl]
  | d :: ds, acc, h, hz => by
    rw [List.length_cons] at hz
    obtain ⟨ρ1, h1, h2, h3⟩ := h d List.mem_cons_self
    have h' : ∀ d ∈ ds, _ := fun d hd => h d (List.mem_cons_of_mem _ hd)
    unfold cl
    rw [h1]
    dsimp only
    rw [h2]
    cases hp : p d with
    | false =>
      dsimp only
      rw [cl_pure p f ds acc h' (by omega)]
      simp [hp]
    | true =>
      dsimp only
      rw [h3 hp]
      dsimp only
      rw [if_pos (by omega), cl_pure p f ds (acc ++ [f d]) h' (by simp; omega)]
      simp [hp]
end Mi

set_option Elab.async false
set_option linter.all false
set_option maxRecDepth 100000
set_option maxHeartbeats 4000000
namespace Mi
open PySem L2 TL
/-! ### texts -/
theorem log2_ok {i : Int} (h : -18446744073709551616 < i ∧ i < 18446744073709551616) : i.natAbs.log2 < 1920 := by
  by_cases h0 : i.natAbs = 0
  · rw [h0]; decide
  · have := (Nat.log2_lt h0 (k := 64)).mpr (by omega)
    omega
theorem s_assoc (a b c : Str) : a ++ b ++ c = a ++ (b ++ c) := by
  apply ext_tl
  rw [tl_append, tl_append, tl_append, tl_append, List.append_assoc]
@[simp] theorem s_nil (a : Str) : Str.empty ++ a = a := by
  apply ext_tl
  rw [tl_append]
  rfl
@[simp] theorem s_nil2 (a : Str) : (Str.ofString "") ++ a = a := by
  have : Str.ofString "" = Str.empty := by decide +kernel
  rw [this, s_nil]
theorem len_app (a b : Str) : (a ++ b).length = a.length + b.length := by
  show (a.cps ++ b.cps).size = a.cps.size + b.cps.size
  exact Array.size_append
theorem len_tl (a : Str) : a.length = (tl a).length := by simp [Str.length]
/-- all signs are figures -/
def digB (s : Str) : Bool := s.cps.toList.all fun c => decide (48 ≤ c) && decide (c ≤ 57)
theorem digB_app {a b : Str} : digB (a ++ b) = (digB a && digB b) := by
  unfold digB
  rw [show (a ++ b).cps.toList = a.cps.toList ++ b.cps.toList from tl_append a b, List.all_append]
theorem digB_no {s : Str} (h : digB s = true) {c : Nat} (hc : c < 48 ∨ 57 < c) : c ∉ tl s := by
  intro hm
  have := List.all_eq_true.mp h c hm
  simp at this
  omega
theorem dig_in {c : Nat} (h : 48 ≤ c ∧ c ≤ 57) : dNinT [] (.str ⟨#[c]⟩) (.str "0123456789") = some (.bl false) := by
  have hc : c = 48 ∨ c = 49 ∨ c = 50 ∨ c = 51 ∨ c = 52 ∨ c = 53 ∨ c = 54 ∨ c = 55 ∨ c = 56 ∨ c = 57 := by omega
  rcases hc with rfl | rfl | rfl | rfl | rfl | rfl | rfl | rfl | rfl | rfl <;> rfl
theorem dig_any : ∀ {l : List Nat}, (l.all fun c => decide (48 ≤ c) && decide (c ≤ 57)) = true → ∃ bs, blsD (qBin dNinT qVar (qCon (.str "0123456789"))) (l.map fun c => D.str ⟨#[c]⟩) = some bs ∧ bs.any id = false
  | [], _ => ⟨[], rfl, rfl⟩
  | c :: l, h => by
    simp only [List.all_cons, Bool.and_eq_true, decide_eq_true_eq] at h
    obtain ⟨bs, h1, h2⟩ := dig_any (l := l) (by simp only [List.all_eq_true, Bool.and_eq_true, decide_eq_true_eq]; simpa using h.2)
    refine ⟨false :: bs, ?_, by simpa using h2⟩
    have e : qBin dNinT qVar (qCon (.str "0123456789")) (.str ⟨#[c]⟩) = some (.bl false) := dig_in h.1
    show (match qBin dNinT qVar (qCon (.str "0123456789")) (.str ⟨#[c]⟩) with
      | some (.bl b) => (match blsD (qBin dNinT qVar (qCon (.str "0123456789"))) (l.map fun c => D.str ⟨#[c]⟩) with
        | some bs => some (b :: bs)
        | none => none)
      | _ => none) = _
    rw [e, h1]
theorem gn_str {μ : Sto} {z : Str} : gnItems μ (.str z) = some (signsD z) := rfl
theorem dig_anyS {z : Str} (h : digB z = true) : ∃ bs, blsD (qBin dNinT qVar (qCon (.str "0123456789"))) (signsD z) = some bs ∧ bs.any id = false := dig_any h
/-- digits of small numbers -/
theorem one_dig {i : Int} (h : 0 ≤ i ∧ i < 10) : (toS i).length = 1 ∧ digB (toS i) = true := by
  have : i = 0 ∨ i = 1 ∨ i = 2 ∨ i = 3 ∨ i = 4 ∨ i = 5 ∨ i = 6 ∨ i = 7 ∨ i = 8 ∨ i = 9 := by omega
  rcases this with rfl | rfl | rfl | rfl | rfl | rfl | rfl | rfl | rfl | rfl <;> decide +kernel
def two (n : Int) : Str := toS (n / 10) ++ toS (n % 10)
theorem two_dig {i : Int} (h : 0 ≤ i ∧ i < 100) : (two i).length = 2 ∧ digB (two i) = true := by
  have h1 := one_dig (i := i / 10) (by omega)
  have h2 := one_dig (i := i % 10) (by omega)
  unfold two
  rw [len_app, digB_app, h1.1, h2.1, h1.2, h2.2]
  exact ⟨rfl, rfl⟩
theorem two_int {i : Int} (h : 0 ≤ i ∧ i < 100) : PySem.intText? (two i) = some i := by
  have key : ∀ n : Fin 100, PySem.intText? (two (n.val : Int)) = some (n.val : Int) := by decide +kernel
  have := key ⟨i.toNat, by omega⟩
  have e : ((i.toNat : Nat) : Int) = i := by omega
  simp only [e] at this
  exact this
theorem year_dig {i : Int} (h : 2000 ≤ i ∧ i < 2200) : (toS i).length = 4 ∧ digB (toS i) = true ∧ PySem.intText? (toS i) = some i := by
  have key : ∀ n : Fin 200, (toS (2000 + (n.val : Int))).length = 4 ∧ digB (toS (2000 + (n.val : Int))) = true ∧ PySem.intText? (toS (2000 + (n.val : Int))) = some (2000 + (n.val : Int)) := by decide +kernel
  have := key ⟨(i - 2000).toNat, by omega⟩
  have e : (2000 + ((i - 2000).toNat : Int)) = i := by omega
  simp only [e] at this
  exact this
end Mi

set_option Elab.async false
set_option linter.all false
set_option maxRecDepth 100000
set_option maxHeartbeats 4000000
namespace Mi
open PySem L2 TL
/-! ### the laws' dice -/
def gDice : FnS := fnS 1 (cSeq (cIf (bTst (bChain dLt dLt (bBin dSub (bCon (.int 0)) (bCon (.int 10))) (bVar 0) (bCon (.int 10)))) (cRet (bLstM (bCons (bFn dAbs (bCons (bVar 0) (bNil))) (bCons (bCon (.int 0)) (bCons (bCon (.int 2)) (bNil)))))) (cNop)) (cRet (bLstM (bCons (bVar 0) (bCons (bBin dAdd (bCon (.int 1)) (bBin dMod (bFn dInt (bCons (bVar 0) (bNil))) (bCon (.int 1009)))) (bCons (bFn dInt (bCons (bBin dGe (bVar 0) (bBin dPow (bCon (.int 10)) (bCon (.int 18)))) (bNil))) (bNil)))))))
def gRoll : FnS := fnS 3 (cSeq (cIf (bOrT (bTst (bBin dEq (bBin dIx (bVar 0) (bCon (.int 2))) (bCon (.int 2)))) (bAndT (bTst (bBin dEq (bBin dIx (bVar 0) (bCon (.int 2))) (bCon (.int 1)))) (bTst (bBin dGt (bBin dIx (bVar 0) (bCon (.int 0))) (bCon (.int 0)))))) (cSeq (cSet 2 (bBin dMod (bFn dInt (bCons (bBin dIx (bVar 0) (bCon (.int 0))) (bNil))) (bVar 1))) (cSeq (cAsg (bBin dDiv (bBin dIx (bVar 0) (bCon (.int 0))) (bVar 1)) (tgSub (bVar 0) (bCon (.int 0)))) (cRet (bVar 2)))) (cNop)) (cSeq (cAsg (bCon (.int 0)) (tgSub (bVar 0) (bCon (.int 2)))) (cSeq (cIf (bTst (bBin dGt (bVar 1) (bCon (.int 100000000)))) (cStuck) (cNop)) (cSeq (cAsg (bBin dMod (bFn dInt (bCons (bBin dAdd (bBin dAdd (bBin dMul (bBin dIx (bVar 0) (bCon (.int 0))) (bCon (.int 48271))) (bBin dMul (bBin dIx (bVar 0) (bCon (.int 1))) (bCon (.int 69621)))) (bCon (.int 11))) (bNil))) (bCon (.int 2147483647))) (tgSub (bVar 0) (bCon (.int 0)))) (cSeq (cAsg (bBin dAdd (bBin dIx (bVar 0) (bCon (.int 1))) (bCon (.int 1))) (tgSub (bVar 0) (bCon (.int 1)))) (cRet (bBin dMod (bFn dInt (bCons (bBin dDiv (bBin dIx (bVar 0) (bCon (.int 0))) (bCon (.int 7))) (bNil))) (bVar 1))))))))
def gRounds : FnS := fnS 4 (cSeq (cSet 2 (bSl (bVar 0) (bNoPart) (bPart (bVar 1)))) (cSeq (cIf (bTst (bBin dEq (bVar 2) (bLst (bNil)))) (cSet 2 (bLst (bCons (bCon (.int 0)) (bNil)))) (cNop)) (cRet (bComp [3] (bItems (bVar 2)) (tgName 3) (bYes) (bCallM gDice (bCons (bVar 3) (bNil)))))))
theorem tgSub_at {fo fi : Cb D} {d : D} {ρ : En} {μ : Sto} {n j : Nat} {i : Int} {xs : List D} (h1 : fo ρ μ = some (.ok (.ref n) μ)) (h2 : fi ρ μ = some (.ok (.int i) μ)) (h3 : μ[n]? = some (.lst xs)) (h4 : ixN xs.length i = some j) (h5 : lamf d = true) : tgSub fo fi d ρ μ = some (ρ, μ.set n (.lst (xs.set j d))) := by
  unfold tgSub
  simp [h1, h2, h3, h4, h5]
theorem roll_s {μ : Sto} {n : Nat} {a b c many : Int} (hμ : μ[n]? = some (.lst [.int a, .int b, .int c])) (h0 : 0 < many) (h1 : many ≤ 100000000) :
    ∃ r a' b' c', 0 ≤ r ∧ r < many ∧ gRoll [.ref n, .int many] μ = some (.ok (.int r) (μ.set n (.lst [.int a', .int b', .int c']))) := by
  have hl : n < μ.length := (List.getElem?_eq_some_iff.mp hμ).1
  have hg : ∀ x, (μ.set n x)[n]? = some x := fun x => List.getElem?_set_self hl
  have hd : many < 1073741824 := by omega
  have hm : ¬ 100000000 < many := by omega
  unfold gRoll
  rw [fnS_s]
  by_cases hc : c = 2 ∨ (c = 1 ∧ 0 < a)
  · refine ⟨a % many, a / many, b, c, Int.emod_nonneg _ (by omega), Int.emod_lt_of_pos _ h0, ?_⟩
    have e : (if c = 2 then true else (if c = 1 then decide (0 < a) else false)) = true := by
      rcases hc with h | ⟨h, h'⟩
      · simp [h]
      · subst h; simp [h']
    rcases hc with h | ⟨h, h'⟩
    · subst h
      simp [dIx, sqD, vw, hμ, atI, ixN, modOk, divOk, h0, hd, tgSub, lamf]
    · subst h
      simp [dIx, sqD, vw, hμ, atI, ixN, modOk, divOk, h0, hd, h', tgSub, lamf]
  · refine ⟨(a * 48271 + b * 69621 + 11) % 2147483647 / 7 % many, (a * 48271 + b * 69621 + 11) % 2147483647, b + 1, 0, Int.emod_nonneg _ (by omega), Int.emod_lt_of_pos _ h0, ?_⟩
    have e1 : ¬ c = 2 := fun h => hc (.inl h)
    by_cases e2 : c = 1
    · have e3 : ¬ 0 < a := fun h => hc (.inr ⟨e2, h⟩)
      subst e2
      simp [dIx, sqD, vw, hμ, atI, ixN, modOk, divOk, mulOk, h0, hd, hm, e3, tgSub, lamf, hg]
    · simp [dIx, sqD, vw, hμ, atI, ixN, modOk, divOk, mulOk, h0, hd, hm, e1, e2, tgSub, lamf, hg]
theorem dice_s (cell : Int) (μ : Sto) : ∃ a b c, gDice [.int cell] μ = some (.ok (.ref μ.length) (μ ++ [.lst [.int a, .int b, .int c]])) := by
  unfold gDice
  rw [fnS_s]
  have e : dPow (μ) (.int 10) (.int 18) = some (.int 1000000000000000000) := by rfl
  by_cases h1 : -10 < cell ∧ cell < 10
  · refine ⟨if cell < 0 then -cell else cell, 0, 2, ?_⟩
    simp [h1.1, h1.2, lamfs, lamf]
  · refine ⟨cell, 1 + cell % 1009, if 1000000000000000000 ≤ cell then 1 else 0, ?_⟩
    by_cases h2 : -10 < cell
    · have h3 : ¬ cell < 10 := fun h => h1 ⟨h2, h⟩
      simp [h2, h3, lamfs, lamf, e, modOk]
    · simp [h2, lamfs, lamf, e, modOk]
theorem rounds_s (ns : List Int) : ∃ a b c, gRounds [.scr ns, .int 1] [] = some (.ok (.lst [.ref 0]) [.lst [.int a, .int b, .int c]]) := by
  unfold gRounds
  rw [fnS_s]
  cases ns with
  | nil =>
    obtain ⟨a, b, c, h⟩ := dice_s 0 []
    have e : dSl [] (.scr []) none (some 1) = some (.lst []) := by rfl
    have e2 : dEq [] (.lst []) (.lst []) = some (.bl true) := by rfl
    refine ⟨a, b, c, ?_⟩
    simp [e, e2, cl, wipeD, lamfs, lamf, h]
  | cons x r =>
    obtain ⟨a, b, c, h⟩ := dice_s x []
    have e : dSl [] (.scr (x :: r)) none (some 1) = some (.lst [.int x]) := by
      have h1 : cutD (x :: r) none (some 1) = [x] := by
        unfold cutD
        simp [HT.sIx]
      unfold dSl
      dsimp only
      rw [h1]
      rfl
    have e2 : dEq [] (.lst [.int x]) (.lst []) = some (.bl false) := by rfl
    refine ⟨a, b, c, ?_⟩
    simp [e, e2, cl, wipeD, lamfs, lamf, h]
end Mi

set_option Elab.async false
set_option linter.all false
set_option maxRecDepth 100000
set_option maxHeartbeats 4000000
namespace Mi
open PySem L2 TL
/-! ### == of ints' tuples and lists -/
theorem pds_ints : ∀ xs : List Int, pds (xs.map .int) = some (xs.map PyData.int)
  | [] => rfl
  | x :: xs => by simp [pds, pd, pds_ints xs]
theorem lay_ints : ∀ xs : List Int, PyData.canLayAll0 (xs.map PyData.int) = true
  | [] => by simp [PyData.canLayAll0]
  | x :: xs => by simp [PyData.canLayAll0, PyData.canLay0, lay_ints xs]
theorem dep_ints : ∀ xs : List Int, PyData.depthAll (xs.map PyData.int) ≤ 1
  | [] => by simp [PyData.depthAll]
  | x :: xs => by
    have := dep_ints xs
    simp only [List.map_cons, PyData.depthAll, PyData.depth]
    omega
theorem eqv_ints : ∀ xs ys : List Int, PyData.eqvAll (xs.map PyData.int) (ys.map PyData.int) = decide (xs = ys)
  | [], [] => by simp [PyData.eqvAll]
  | [], y :: ys => by simp [PyData.eqvAll]
  | x :: xs, [] => by simp [PyData.eqvAll]
  | x :: xs, y :: ys => by
    rw [List.map_cons, List.map_cons, PyData.eqvAll, eqv_ints xs ys, PyData.eqv, beq_dec, Bool.eq_iff_iff]
    simp
theorem eqB_tup (xs ys : List Int) : dEqB (.tup (xs.map .int)) (.tup (ys.map .int)) = some (decide (xs = ys)) := by
  have h1 : ∀ zs : List Int, SeqAt.shaped (.tuple (zs.map PyData.int)) = true := fun zs => by
    have := dep_ints zs
    unfold SeqAt.shaped
    rw [PyData.canLay0, lay_ints, PyData.depth, Bool.true_and]
    refine decide_eq_true ?_
    omega
  unfold dEqB
  simp only [pd, pds_ints, h1, PyData.eqv, eqv_ints, Bool.and_self, if_true, ite_true]
theorem eqB_lst (xs ys : List Int) : dEqB (.lst (xs.map .int)) (.lst (ys.map .int)) = some (decide (xs = ys)) := by
  have h1 : ∀ zs : List Int, SeqAt.shaped (.list (zs.map PyData.int)) = true := fun zs => by
    have := dep_ints zs
    unfold SeqAt.shaped
    rw [PyData.canLay0, lay_ints, PyData.depth, Bool.true_and]
    refine decide_eq_true ?_
    omega
  unfold dEqB
  simp only [pd, pds_ints, h1, PyData.eqv, eqv_ints, Bool.and_self, if_true, ite_true]
section
variable {μ : Sto}
theorem dNe_tup (xs ys : List Int) : dNe μ (.tup (xs.map .int)) (.tup (ys.map .int)) = some (.bl (!decide (xs = ys))) := by unfold dNe; rw [eqB_tup]
theorem dEq_tup (xs ys : List Int) : dEq μ (.tup (xs.map .int)) (.tup (ys.map .int)) = some (.bl (decide (xs = ys))) := by unfold dEq; rw [eqB_tup]
theorem dNe_lst (xs ys : List Int) : dNe μ (.lst (xs.map .int)) (.lst (ys.map .int)) = some (.bl (!decide (xs = ys))) := by unfold dNe; rw [eqB_lst]
theorem dEq_lst (xs ys : List Int) : dEq μ (.lst (xs.map .int)) (.lst (ys.map .int)) = some (.bl (decide (xs = ys))) := by unfold dEq; rw [eqB_lst]
@[simp] theorem dNe_2 {a b c d : Int} : dNe μ (.tup [.int a, .int b]) (.tup [.int c, .int d]) = some (.bl (!decide (a = c ∧ b = d))) := by
  have := dNe_tup (μ := μ) [a, b] [c, d]
  simpa using this
@[simp] theorem dNe_3 {a b c d e f : Int} : dNe μ (.tup [.int a, .int b, .int c]) (.tup [.int d, .int e, .int f]) = some (.bl (!decide (a = d ∧ b = e ∧ c = f))) := by
  have := dNe_tup (μ := μ) [a, b, c] [d, e, f]
  simpa using this
@[simp] theorem dEq_2 {a b c d : Int} : dEq μ (.tup [.int a, .int b]) (.tup [.int c, .int d]) = some (.bl (decide (a = c ∧ b = d))) := by
  have := dEq_tup (μ := μ) [a, b] [c, d]
  simpa using this
theorem dEq_nil (xs : List Int) : dEq μ (.lst (xs.map .int)) (.lst []) = some (.bl (decide (xs = []))) := dEq_lst xs []
theorem dNe_nil (xs : List Int) : dNe μ (.lst (xs.map .int)) (.lst []) = some (.bl (!decide (xs = []))) := dNe_lst xs []
theorem dNe_nn : dNe μ (.lst []) (.lst []) = some (.bl false) := by rfl
end
@[simp] theorem atI_0 {α : Type} {x : α} {r : List α} : atI (x :: r) 0 = some x := by simp [atI, ixN]
@[simp] theorem atI_1 {α : Type} {x y : α} {r : List α} : atI (x :: y :: r) 1 = some y := by
  have h : (1 : Int) < (r.length : Int) + 1 + 1 := by omega
  simp [atI, ixN, h]
@[simp] theorem atI_2 {α : Type} {x y z : α} {r : List α} : atI (x :: y :: z :: r) 2 = some z := by
  have h : (2 : Int) < (r.length : Int) + 1 + 1 + 1 := by omega
  simp [atI, ixN, h]
theorem atI_ofNat {α : Type} (xs : List α) (n : Nat) : atI xs (n : Int) = xs[n]? := by
  unfold atI ixN
  rw [if_pos (by omega)]
  by_cases h : (n : Int) < xs.length
  · rw [if_pos h]
    simp
  · rw [if_neg h]
    have : xs.length ≤ n := by omega
    simp [List.getElem?_eq_none this]
theorem seq_nx {f1 f2 : Cs} {ρ ρ1 : En} {μ μ1 : Sto} {r : Option SOut} (h : f1 ρ μ = some (.nx ρ1 μ1)) (h2 : f2 ρ1 μ1 = r) : cSeq f1 f2 ρ μ = r := by
  unfold cSeq
  rw [h]
  exact h2
end Mi

set_option Elab.async false
set_option linter.all false
set_option maxRecDepth 100000
set_option maxHeartbeats 4000000
namespace Mi
open PySem L2
/-! ### instances -/
def lkD : List Str → List D → Str → Option D
  | k :: ks, x :: xs, j => if j = k then some x else lkD ks xs j
  | _, _, _ => none
def putD : List Str → List D → Str → D → List Str × List D
  | k :: ks, x :: xs, f, y => if k = f then (k :: ks, y :: xs) else (k :: (putD ks xs f y).1, x :: (putD ks xs f y).2)
  | _, _, f, y => ([f], [y])
/-- the instance that a datum names -/
def insD (μ : Sto) : D → Option (Nat × Str × List Str × List D)
  | .ref n => match μ[n]? with
    | some (.ins c fs xs) => some (n, c, fs, xs)
    | _ => none
  | _ => none
def bFld (cs : List Str) (f : Str) (fo : Cb D) : Cb D := fun ρ μ => ob (fo ρ μ) fun x μ1 => match insD μ1 x with
  | some (_, c, fs, xs) => if c ∈ cs then rt (lkD fs xs f) μ1 else none
  | none => none
def fldPut (μ2 : Sto) (cs : List Str) (f : Str) (x y : D) : Option Sto := match insD μ2 x with
  | some (n, c, fs, xs) => if c ∈ cs ∧ fs.length < 1000 ∧ lamf y = true then some (μ2.set n (.ins c (putD fs xs f y).1 (putD fs xs f y).2)) else none
  | none => none
def cFld (cs : List Str) (f : Str) (fo fv : Cb D) : Cs := fun ρ μ => obS (fv ρ μ) ρ fun y μ1 => obS (fo ρ μ1) ρ fun x μ2 => match fldPut μ2 cs f x y with
  | some μ3 => some (.nx ρ μ3)
  | none => none
def bMeth (tab : List (Str × FnS)) (m : Str) (fo : Cb D) (fs : Cb (List D)) : Cb D := fun ρ μ => match fo ρ μ with
  | some (.ok x μ1) => (match insD μ1 x with
    | some (n, c, gs, _) => (match tab.lookup c with
      | some F => if m ∈ gs then none else ob (fs ρ μ1) fun ds μ2 => if lamfs ds = true then F (.ref n :: ds) μ2 else none
      | none => none)
    | none => none)
  | _ => none
def bMake (c : Str) (F : FnS) (fs : Cb (List D)) : Cb D := fun ρ μ => ob (fs ρ μ) fun ds μ1 => if lamfs ds = true then (match F (.ref μ1.length :: ds) (μ1 ++ [.ins c [] []]) with
  | some (.ok .non μ2) => some (.ok (.ref μ1.length) μ2)
  | some (.exc e μ2) => some (.exc e μ2)
  | _ => none) else none
/-- the class c has no attribute f of its own -/
structure CF (g : Gb) (c f : Str) : Prop where
  cl : Cls g.K (g.cls c)
  no : NoAttr g.K (g.cls c) f
structure MC (g : Gb) (k : Nat) (c m : Str) (n : Nat) (F : FnS) : Prop where
  ex : ∃ (f : Addr) (fd : FuncData) (ps : List Str), Cls g.K (g.cls c) ∧ Meth g.K (g.cls c) m f ∧ Binds g.K fd ps [] ∧ FnOk g.P g.w g.K g.mg g.base (L2.CX g.P g.w) k f fd ps (spM g (n + 1) F)
structure KC (g : Gb) (k : Nat) (c : Str) (n : Nat) (F : FnS) : Prop where
  ex : ∃ (f : Addr) (fd : FuncData) (ps : List Str), g.mg c = some (.ref (g.cls c)) ∧ Mk g.K (g.cls c) f ∧ Binds g.K fd ps [] ∧ FnOk g.P g.w g.K g.mg g.base (L2.CX g.P g.w) k f fd ps (spM g (n + 1) F)
section
variable {g : Gb} {k j : Nat} {Λ : Lr} {X : Cx} {W : WX} {ι : List Addr} {H : Hp} {μ : Sto}
theorem lk_rd {f : Str} {d : D} : ∀ {fs : List Str} {xs : List D} {vfs : List (Str × V)}, vfs.map (·.1) = fs → Reps g.K Λ ι H xs (vfs.map (·.2)) → lkD fs xs f = some d → ∃ v, vfs.lookup f = some v ∧ Rep g.K Λ ι H d v
  | [], _, _, _, _, e => by cases ‹List D› <;> cases e
  | k :: ks, [], _, _, _, e => by cases e
  | k :: ks, x :: xs, [], h, _, e => by cases h
  | k :: ks, x :: xs, (k', v') :: kvs, h, hr, e => by
    rw [List.map_cons, List.cons.injEq] at h
    obtain ⟨v, r, h1, h2, h3⟩ := hr
    rw [List.map_cons, List.cons.injEq] at h1
    have hk : k' = k := h.1
    have hv : v' = v := h1.1
    unfold lkD at e
    split at e
    · rename_i q
      cases e
      refine ⟨v, ?_, h2⟩
      show (match f == k' with | true => some v' | false => kvs.lookup f) = some v
      rw [hk, hv, q, beq_self_eq_true]
    · rename_i q
      obtain ⟨u, y1, y2⟩ := lk_rd (fs := ks) (xs := xs) (vfs := kvs) h.2 (by rw [h1.2]; exact h3) e
      refine ⟨u, ?_, y2⟩
      show (match f == k' with | true => some v' | false => kvs.lookup f) = some u
      have : (f == k') = false := by rw [hk]; exact beq_eq_false_iff_ne.mpr q
      rw [this]
      exact y1
theorem lk_none {f : Str} : ∀ {vfs : List (Str × V)}, f ∉ vfs.map (·.1) → vfs.lookup f = none
  | [], _ => rfl
  | (k, v) :: r, h => by
    rw [List.map_cons, List.mem_cons, not_or] at h
    show (match f == k with | true => some v | false => r.lookup f) = none
    have : (f == k) = false := beq_eq_false_iff_ne.mpr h.1
    rw [this]
    exact lk_none h.2
theorem put_rd {f : Str} {y : D} {u : V} (hy : Rep g.K Λ ι H y u) : ∀ {fs : List Str} {xs : List D} {vfs : List (Str × V)}, vfs.map (·.1) = fs → Reps g.K Λ ι H xs (vfs.map (·.2)) → (putF f u vfs).map (·.1) = (putD fs xs f y).1 ∧ Reps g.K Λ ι H (putD fs xs f y).2 ((putF f u vfs).map (·.2))
  | [], xs, [], h, hr => by
    have : xs = [] := by
      have := hr.len
      simpa using this
    subst this
    exact ⟨rfl, u, [], rfl, hy, rfl⟩
  | [], _, _ :: _, h, _ => by cases h
  | k :: ks, [], vfs, h, hr => by
    have h9 := hr.len
    have h10 := congrArg List.length h
    rw [List.length_map] at h9 h10
    rw [← h9] at h10
    cases h10
  | k :: ks, x :: xs, [], h, _ => by cases h
  | k :: ks, x :: xs, (k', v') :: kvs, h, hr => by
    rw [List.map_cons, List.cons.injEq] at h
    obtain ⟨v, r, h1, h2, h3⟩ := hr
    rw [List.map_cons, List.cons.injEq] at h1
    have hk : k' = k := h.1
    have hv : v' = v := h1.1
    unfold putF putD
    rw [hk]
    by_cases q : k = f
    · rw [if_pos q, if_pos q]
      exact ⟨by rw [List.map_cons, h.2], u, _, rfl, hy, by rw [h1.2]; exact h3⟩
    · rw [if_neg q, if_neg q]
      obtain ⟨y1, y2⟩ := put_rd hy (fs := ks) (xs := xs) (vfs := kvs) h.2 (by rw [h1.2]; exact h3)
      exact ⟨by rw [List.map_cons, y1], v, _, by rw [List.map_cons, hv], h2, y2⟩
theorem put_len : ∀ (fs : List Str) (xs : List D) (f : Str) (y : D), lamfs xs = true → lamf y = true → lamfs (putD fs xs f y).2 = true
  | [], xs, f, y, _, hy => by cases xs <;> simp [putD, lamfs, hy]
  | k :: ks, [], f, y, _, hy => by simp [putD, lamfs, hy]
  | k :: ks, x :: xs, f, y, h, hy => by
    simp only [lamfs, Bool.and_eq_true] at h
    unfold putD
    split
    · simp [lamfs, hy, h.2]
    · simp only [lamfs, Bool.and_eq_true]
      exact ⟨h.1, put_len ks xs f y h.2 hy⟩
/-- an object of the store changes -/
theorem MR.setO (m : MR g Λ ι H μ) {n : Nat} {ad : Addr} {u so : SO} {o : HO} (hn : μ[n]? = some u) (ha : ι[n]? = some ad) (no : ∀ ps, o ≠ .tbl ps) (hob : Ext ι H ι (upd H ad o) → ObjR g Λ ι (upd H ad o) so ad) :
    Ext ι H ι (upd H ad o) ∧ MR g Λ ι (upd H ad o) (μ.set n so) := by
  have hm : ad ∈ ι := List.mem_of_getElem? ha
  have e : Ext ι H ι (upd H ad o) := ⟨⟨[], by simp, by simp⟩, fun b w h _ ni => by rw [upd_ne (fun z => ni (by rw [z]; exact hm))]; exact h, fun b h w ew => by
    by_cases z : b = ad
    · rw [z] at h
      exact (h.no upd_same no).elim
    · exact h w (by rw [upd_ne z]; exact ew)⟩
  have nt : ∀ p ps, H p = some (.tbl ps) → p ≠ ad := fun p ps h z => by
    rw [z] at h
    rcases m.mem hm with ⟨_, q⟩ | ⟨_, q⟩ | ⟨_, _, _, q⟩ <;> rw [h] at q <;> cases q
  have nc : ∀ p q, H p = some (LamX.CodeO p q) → p ≠ ad := fun p q h z => by
    rw [z] at h
    unfold LamX.CodeO at h
    rcases m.mem hm with ⟨_, q⟩ | ⟨_, q⟩ | ⟨_, _, _, q⟩ <;> rw [h] at q <;> cases q
  refine ⟨e, ⟨by simp [m.len], m.nd, fun i s' q => ?_, fun t ht => ?_, fun b hb h => m.avs b hb (e.nt b h)⟩⟩
  · by_cases hi : n = i
    · subst hi
      have hl : n < μ.length := (List.getElem?_eq_some_iff.mp hn).1
      rw [List.getElem?_set_self hl] at q
      cases q
      exact ⟨ad, ha, hob e⟩
    · rw [List.getElem?_set_ne hi] at q
      obtain ⟨b, h1, h2⟩ := m.ob i s' q
      have hb : b ≠ ad := fun z => hi ((List.getElem?_inj (List.getElem?_eq_some_iff.mp ha).1 m.nd).mp (by rw [ha, h1, z]))
      exact ⟨b, h1, h2.ext' e fun w h _ => by rw [upd_ne hb]; exact h⟩
  · obtain ⟨ps, h1, h2, h3⟩ := m.tabs t ht
    refine ⟨ps, by rw [upd_ne (nt _ ps h1)]; exact h1, h2, fun ps2 cv hc => ?_⟩
    obtain ⟨c, e1, e2⟩ := h3 ps2 cv hc
    exact ⟨c, e1, by rw [upd_ne (nc _ _ e2)]; exact e2⟩
theorem ins_rd (m : MR g Λ ι H μ) {x : D} {v : V} {n : Nat} {c : Str} {fs : List Str} {xs : List D} (r : Rep g.K Λ ι H x v) (e : insD μ x = some (n, c, fs, xs)) :
    x = .ref n ∧ μ[n]? = some (.ins c fs xs) ∧ ∃ ad dx vfs, v = .ref ad ∧ ι[n]? = some ad ∧ H ad = some (.ins (g.cls c) dx vfs) ∧ (dx ∉ ι ∧ dx ∉ Λ.av) ∧ H dx = some (.own ad) ∧ vfs.map (·.1) = fs ∧ Reps g.K Λ.pure ι H xs (vfs.map (·.2)) := by
  unfold insD at e
  split at e
  · rename_i n'
    split at e
    · rename_i hn
      cases e
      obtain ⟨a, rfl, ha⟩ := r
      obtain ⟨b, h3, dx, vfs, h4, h5, h6, h7, h8⟩ := m.ob _ _ hn
      rw [ha] at h3
      cases h3
      exact ⟨rfl, hn, a, dx, vfs, rfl, ha, h4, h5, h6, h7, h8⟩
    · cases e
  · cases e
variable {a o e : Expr} {es : List Expr} {fo fv : Cb D} {fs : Cb (List D)} {pos pos' apos p : Pos} {cs : List Str} {f m c : Str} {n : Nat} {Fs : FnS} {tab : List (Str × FnS)}
theorem de_fld (hc : ∀ c ∈ cs, CF g c f) (ho : DE g k Λ X W o fo) (hb : attributeBase o f X.env (eval o X.env) = eval o X.env := by rfl) : DE g k Λ X W (.Attribute o f pos) (bFld cs f fo) := fun ok tk =>
  PE.imp (pe_fld (ho ok tk) hb) fun σ H Q ⟨ι, ρ, μ, r, l, m, e, p⟩ => go_E (X1 := True) l m e p.px fun d μ1 ι1 H1 v e1 e2 x1 m1 l1 r1 => by
    split at e2
    · rename_i nn cc gs xs hi
      split at e2
      · rename_i hcs
        obtain ⟨z, hz, rfl⟩ := rt_some e2
        obtain ⟨_, _, ad, dx, vfs, rfl, h1, h2, h3, h4, h5, h6⟩ := ins_rd m1 r1 hi
        obtain ⟨v, y1, y2⟩ := lk_rd h5 (Reps.of_pure xs h6) hz
        have q := hc cc hcs
        exact ⟨ad, g.cls cc, dx, vfs, v, rfl, h2, by rw [ok.K]; exact q.cl, by rw [ok.K]; exact q.no, y1, p ι1 H1 v x1 m1 y2⟩
      · cases e2
    · cases e2
theorem put_sto (m1 : MR g Λ ι H μ) {x y : D} {v u : V} {μ3 : Sto} (hc : ∀ c ∈ cs, CF g c f) (rx : Rep g.K Λ ι H x v) (ry : Rep g.K Λ ι H y u) (e : fldPut μ cs f x y = some μ3) :
    ∃ ad c dx vfs, v = .ref ad ∧ H ad = some (.ins (g.cls c) dx vfs) ∧ CF g c f ∧ vfs.length < 1000 ∧ Ext ι H ι (upd H ad (.ins (g.cls c) dx (putF f u vfs))) ∧ MR g Λ ι (upd H ad (.ins (g.cls c) dx (putF f u vfs))) μ3 := by
  unfold fldPut at e
  split at e
  · rename_i nn cc gs xs hi
    split at e
    · rename_i hcs
      cases e
      obtain ⟨rfl, hn, ad, dx, vfs, rfl, h1, h2, h3, h4, h5, h6⟩ := ins_rd m1 rx hi
      have hdx : dx ≠ ad := fun z => by rw [z, h2] at h4; cases h4
      have ry' : Rep g.K Λ.pure ι H y u := Rep.lam (Λ := Λ) (Λ' := Λ.pure) rfl y hcs.2.2 ry
      obtain ⟨y1, y2⟩ := put_rd (Λ := Λ.pure) (f := f) ry' h5 h6
      obtain ⟨z1, z2⟩ := m1.setO (so := .ins cc (putD gs xs f y).1 (putD gs xs f y).2) (o := .ins (g.cls cc) dx (putF f u vfs)) hn h1 (by intro ps z; cases z) fun ex => ⟨dx, putF f u vfs, upd_same, h3, by rw [upd_ne hdx]; exact h4, y1, Reps.ext ex _ y2⟩
      exact ⟨ad, cc, dx, vfs, rfl, h2, hc cc hcs.1, by rw [← List.length_map (f := (·.1)), h5]; exact hcs.2.1, z1, z2⟩
    · cases e
  · cases e
theorem ds_fld (hc : ∀ c ∈ cs, CF g c f) (ho : DE g k Λ X W o fo) (hv : DE g k Λ X W a fv) (hs : swapsWith a (some (.Attribute o f pos')) pos.line X.env = pure false := by rfl) : DS g k Λ X W (.Assign [.Attribute o f pos'] a pos) (cFld cs f fo fv) := fun ok tk =>
  PS.imp (ps_fld (ho ok tk) (hv ok tk) hs) fun E σ H ⟨ι, ρ, μ, r, l, m, e, p⟩ => goS_E l m e p fun y μ1 ι1 H1 u e1 e2 x1 m1 l1 r1 => goS_E l1 m1 e2 (p.ext x1) fun x μ2 ι2 H2 v e3 e4 x2 m2 l2 r2 => by
    split at e4
    · rename_i μ3 hp
      cases e4
      obtain ⟨ad, cc, dx, vfs, rfl, h1, h2, h3, h4, h5⟩ := put_sto m2 hc r2 (Rep.ext x2 y r1) hp
      exact ⟨ad, g.cls cc, dx, vfs, rfl, h1, by rw [ok.K]; exact h2.cl, by rw [ok.K]; exact h2.no, h3, (p.ext x1).ext x2 ι2 _ σ h4 h5 (l2.ext h4)⟩
    · cases e4
end
end Mi

set_option Elab.async false
set_option linter.all false
set_option maxRecDepth 100000
set_option maxHeartbeats 4000000
namespace Mi
open PySem L2
/-! ### methods, new instances -/
section
variable {X : Cx} {CX : CXT} {k : Nat} {f C : Addr} {fd : FuncData} {ps : List Str} {sp : Sp} {E : St → XK} {x m : Str} {p pos apos : Pos} {e o : Expr} {es : List Expr} {ta : TE} {t : TA}
def tMethX (C : Addr) (m : Str) (sp : Sp) (E : St → XK) (ta : TE) (t : TA) : TE := fun σ H Q => ta σ H fun x H1 => ∃ a dx fs, x = .ref a ∧ H1 a = some (.ins C dx fs) ∧ fs.lookup m = none ∧ t σ H1 fun vs H2 => sp (x :: vs) H2 Q (E σ)
theorem pe_methX {pl : Sem Bool} (he : PE X o ta) (c : Cls X.K C) (hm : Meth X.K C m f) (F : FnOk X.prog X.w X.K X.mg X.base CX k f fd ps sp) (hr : Room k X.A) (hb : Binds X.K fd ps []) (hx : ∀ σ, PassesAt CX X σ (E σ)) (ha : PA X (e :: es) t)
    (hst : starEach (e :: es) X.env = (false, eval e X.env) :: starEach es X.env) (hpl : (backTo pos (starEach es X.env)).any (·.1) = false)
    (ht : eval (.Call (.Attribute o m apos) (e :: es) [] pos) X.env = (do
      let ov ← eval o X.env
      standAt apos.atName
      let (f, first) ← holding [ov] (getMethod ov m pl)
      callWith pos f first (backTo pos (starEach (e :: es) X.env)) (backToKw pos (keywordEach [] X.env)))) :
    PE X (.Call (.Attribute o m apos) (e :: es) [] pos) (tMethX C m sp E ta t) := by
  refine ⟨fun pins s σ H Q I h => PySem.W.methodCall_KW (pl := pl) (thn (he.run pins s σ H _ I h) fun u s1 ⟨x, H1, I1, rx, a, dx, fs, ex, ea, l, q⟩ => ?_) ht⟩
  subst ex
  obtain rfl : u = Value.ref a := rx
  refine getmeth_ok I1 ea c hm l (PySem.W.callWith_K (first := [.ref a]) (h₀ := X.base) I.ok.mod.kin hm.kp (thn (ha.run pos pins s1 σ H1 _ I1 q) fun us s2 ⟨vs, H2, I2, r, q2⟩ => ⟨I2.kIn, ?_⟩) hst hpl)
  exact run_fnSD (us := .ref a :: us) (vs := .ref a :: vs) (dvs := []) F hr hb .nil (hx σ) I2 (.cons rfl r) (by rw [List.append_nil]; exact q2)
theorem pe_methX0 {pl : Sem Bool} (he : PE X o ta) (c : Cls X.K C) (hm : Meth X.K C m f) (F : FnOk X.prog X.w X.K X.mg X.base CX k f fd ps sp) (hr : Room k X.A) (hb : Binds X.K fd ps []) (hx : ∀ σ, PassesAt CX X σ (E σ))
    (ht : eval (.Call (.Attribute o m apos) [] [] pos) X.env = (do
      let ov ← eval o X.env
      standAt apos.atName
      let (f, first) ← holding [ov] (getMethod ov m pl)
      callWith pos f first (backTo pos (starEach [] X.env)) (backToKw pos (keywordEach [] X.env)))) :
    PE X (.Call (.Attribute o m apos) [] [] pos) (tMethX C m sp E ta tNil) := by
  refine ⟨fun pins s σ H Q I h => PySem.W.methodCall_KW (pl := pl) (thn (he.run pins s σ H _ I h) fun u s1 ⟨x, H1, I1, rx, a, dx, fs, ex, ea, l, q⟩ => ?_) ht⟩
  subst ex
  obtain rfl : u = Value.ref a := rx
  refine getmeth_ok I1 ea c hm l (PySem.W.callWith_K0 (first := [.ref a]) I1.kIn hm.kp ?_)
  exact run_fnSD (us := [.ref a]) (vs := [.ref a]) (dvs := []) F hr hb .nil (hx σ) I1 (.cons rfl .nil) (by rw [List.append_nil]; exact q)
def tMakeX (C : Addr) (sp : Sp) (E : St → XK) (t : TA) : TE := fun σ H Q => t σ H fun vs H1 => ∀ x dx, H1 x = none → H1 dx = none → dx ≠ x → sp (.ref x :: vs) (upd (upd H1 dx (.own x)) x (.ins C dx [])) (fun v H2 => v = .non ∧ Q (.ref x) H2) (E σ)
theorem run_makeX {pins : List (Addr × Obj)} {σ : St} {H : Hp} {s : Shared} {Q : VK} {us : List Value} {vs : List V} (M : Mk X.K C f) (F : FnOk X.prog X.w X.K X.mg X.base CX k f fd ps sp) (hr : Room (k + 1) X.A) (hb : Binds X.K fd ps []) (hx : PassesAt CX X σ (E σ)) (I : Inv X pins σ H s) (r : Vals vs us)
    (h : ∀ x dx, H x = none → H dx = none → dx ≠ x → sp (.ref x :: vs) (upd (upd H dx (.own x)) x (.ins C dx [])) (fun v H2 => v = .non ∧ Q (.ref x) H2) (E σ)) : wpAny (model X.prog X.w) X.A (call (.ref C) us) (EP X pins σ Q) X.xe s := by
  have hq := h (s.heap.objs.size + 1) s.heap.objs.size (I.hok.fresh (Nat.le_succ _)) (I.hok.fresh (Nat.le_refl _)) (Nat.ne_of_lt (Nat.lt_succ_self _))
  have I2 := Inv.made (C := C) I
  have r2 : Vals (V.ref (s.heap.objs.size + 1) :: vs) (Value.ref (s.heap.objs.size + 1) :: us) := .cons rfl r
  have hl : (Value.ref (s.heap.objs.size + 1) :: us ++ []).length = ps.length := by
    have e := r2.length
    rw [F.len _ _ _ _ hq] at e
    rw [List.append_nil]
    exact e.symm
  have hz : ps.zip (Value.ref (s.heap.objs.size + 1) :: us ++ []) = ps.zip (Value.ref (s.heap.objs.size + 1) :: us) := by rw [List.append_nil]
  refine wpAny_call (make_map (f := f) I.kIn M.makes M.init (beq_iff_eq.mp M.fn) (codeAny_mono (F.run _ X.stack _ _ ⟨Value.ref (s.heap.objs.size + 1) :: us, []⟩ (Value.ref (s.heap.objs.size + 1) :: us) _ _ (E σ) (hr.make C us [])
    (I2.env0.make C us []) (by rw [← hz]; exact hb _ (Value.ref (s.heap.objs.size + 1) :: us) I2.kIn hl) r2 hq) fun r s' hq' => ?_))
  cases r with
  | error e => exact hx pins _ _ e s' I2 hq'
  | ok fl =>
    cases fl with
    | ret u =>
      obtain ⟨v, H', I3, rv, ev, q3⟩ := I2.after hq'
      subst ev
      exact ⟨rv, ⟨V.ref (s.heap.objs.size + 1), H', I3, rfl, q3⟩⟩
    | next => exact False.elim hq'
    | brk => exact False.elim hq'
    | cont => exact False.elim hq'
theorem pe_makeX (M : Mk X.K C f) (F : FnOk X.prog X.w X.K X.mg X.base CX k f fd ps sp) (hr : Room (k + 1) X.A) (hg : Gl X x) (hm : X.mg x = some (.ref C)) (hb : Binds X.K fd ps []) (hx : ∀ σ, PassesAt CX X σ (E σ)) (ha : PA X (e :: es) t)
    (hdb : (x == ("__debug__" : Str)) = false) (he : starEach (e :: es) X.env = (false, eval e X.env) :: starEach es X.env) (hpl : (backTo pos (starEach es X.env)).any (·.1) = false) : PE X (.Call (.Name x p) (e :: es) [] pos) (tMakeX C sp E t) := by
  refine ⟨fun pins s σ H Q I h => wpAny_Call_Name_kw (ld_glob I hg hm ?_ hdb)⟩
  exact PySem.W.callWith_K (h₀ := X.base) I.ok.mod.kin M.kp (thn (ha.run pos pins s σ H _ I h) fun us s1 ⟨vs, H1, I1, r, q⟩ => ⟨I1.kIn, run_makeX M F hr hb (hx σ) I1 r q⟩) he hpl
theorem pe_makeX0 (M : Mk X.K C f) (F : FnOk X.prog X.w X.K X.mg X.base CX k f fd ps sp) (hr : Room (k + 1) X.A) (hg : Gl X x) (hm : X.mg x = some (.ref C)) (hb : Binds X.K fd ps []) (hx : ∀ σ, PassesAt CX X σ (E σ))
    (hdb : (x == ("__debug__" : Str)) = false) : PE X (.Call (.Name x p) [] [] pos) (tMakeX C sp E tNil) := by
  refine ⟨fun pins s σ H Q I h => wpAny_Call_Name_kw (ld_glob I hg hm ?_ hdb)⟩
  exact PySem.W.callWith_K0 I.kIn M.kp (run_makeX (us := []) M F hr hb (hx σ) I .nil h)
end
section
variable {g : Gb} {k j : Nat} {Λ : Lr} {X : Cx} {W : WX} {a o e : Expr} {es : List Expr} {fo : Cb D} {fs : Cb (List D)} {pos apos p : Pos} {f m c : Str} {n : Nat} {Fs : FnS} {tab : List (Str × FnS)}
theorem lookup_mem2 {c : Str} {F : FnS} : ∀ {tab : List (Str × FnS)}, tab.lookup c = some F → (c, F) ∈ tab
  | [], h => by cases h
  | (d, G) :: r, h => by
    have h2 : (match c == d with | true => some G | false => r.lookup c) = some F := h
    cases q : (c == d) with
    | true =>
      rw [q] at h2
      cases h2
      rw [beq_iff_eq.mp q]
      exact List.mem_cons_self
    | false =>
      rw [q] at h2
      exact List.mem_cons_of_mem _ (lookup_mem2 h2)
theorem meth_rd {pl : Sem Bool} {ft : Cb (List D)} {t : TA} (hlen : ∀ ρ μ ds μ1, ft ρ μ = some (.ok ds μ1) → ds.length = n) {σ : St} {H : Hp} {Q : VK} (ht : ∀ R : List V → Hp → Prop, ∀ H1, rdA g Λ W ft σ H1 R → t σ H1 R) (h : rdE g Λ W (bMeth tab m fo ft) σ H Q) :
    ∃ c F, (c, F) ∈ tab ∧ tMethX (g.cls c) m (spM g (n + 1) F) (WE W) (rdE g Λ W fo) t σ H Q := by
  obtain ⟨ι, ρ, μ, r, l, mm, e, p⟩ := h
  unfold bMeth at e
  split at e
  · rename_i x μ1 hx
    split at e
    · rename_i nn c gs xs hi
      split at e
      · rename_i F hF
        split at e
        · cases e
        · rename_i hm
          refine ⟨c, F, lookup_mem2 hF, ι, ρ, μ, _, l, mm, hx, fun ι1 H1 v x1 m1 r1 => ?_⟩
          obtain ⟨rfl, hn, ad, dx, vfs, rfl, h1, h2, h3, h4, h5, h6⟩ := ins_rd m1 r1 hi
          refine ⟨ad, dx, vfs, rfl, h2, lk_none (by rw [h5]; exact hm), ht _ _ (go_A (l.ext x1) m1 e (p.ext x1).px fun ds μ2 ι2 H2 vs e1 e3 x2 m2 l2 r2 => ?_)⟩
          have p2 := (p.ext x1).ext x2
          split at e3
          · rename_i hp
            have hrn : Rep g.K Λ ι2 H2 (.ref nn) (.ref ad) := Rep.ext x2 (.ref nn) r1
            refine ⟨by rw [List.length_cons, ← r2.len, hlen _ _ _ _ e1], Λ, ι2, .ref nn :: ds, μ2, r, m2, Reps.lam (Λ := Λ) (Λ' := Λ.pure) rfl (.ref nn :: ds) (by simpa [lamfs, lamf] using hp) ⟨_, vs, rfl, hrn, r2⟩, e3, ?_⟩
            cases r with
            | ok d μ' => exact fun ι' H' v e m' rv => p2 ι' H' v e m' (Rep.of_pure d rv)
            | exc c μ' => exact fun ι' H' e m' => p2 ι' H' e m'
          · cases e3
      · cases e
    · cases e
  · cases e
theorem de_meth {pl : Sem Bool} (hj : j ≤ k) (M : ∀ c F, (c, F) ∈ tab → MC g j c m n F) (ho : DE g k Λ X W o fo) (ha : DA g k Λ X W (e :: es) fs) (hlen : ∀ ρ μ ds μ1, fs ρ μ = some (.ok ds μ1) → ds.length = n)
    (hst : starEach (e :: es) X.env = (false, eval e X.env) :: starEach es X.env := by rfl) (hpl : (backTo pos (starEach es X.env)).any (·.1) = false := by rfl)
    (ht : eval (.Call (.Attribute o m apos) (e :: es) [] pos) X.env = (do
      let ov ← eval o X.env
      standAt apos.atName
      let (f, first) ← holding [ov] (getMethod ov m pl)
      callWith pos f first (backTo pos (starEach (e :: es) X.env)) (backToKw pos (keywordEach [] X.env))) := by rfl) : DE g k Λ X W (.Call (.Attribute o m apos) (e :: es) [] pos) (bMeth tab m fo fs) := fun ok tk => by
  refine ⟨fun pins s σ H Q I h => ?_⟩
  obtain ⟨c, F, hF, q⟩ := meth_rd (pl := pl) (t := rdA g Λ W fs) hlen (fun _ _ h => h) h
  obtain ⟨f, fd, ps, h1, h2, h3, h4⟩ := (M c F hF).ex
  exact (pe_methX (pl := pl) (E := WE W) (ho ok tk) (by rw [ok.K]; exact h1) (by rw [ok.K]; exact h2) (by rw [ok.P, ok.w, ok.K, ok.mg, ok.base]; exact h4) (ok.room.mono hj) (by rw [ok.K]; exact h3) (fun σ => by rw [← ok.P, ← ok.w]; exact passAt tk σ) (ha ok tk) hst hpl ht).run pins s σ H Q I q
theorem de_meth0 {pl : Sem Bool} (hj : j ≤ k) (M : ∀ c F, (c, F) ∈ tab → MC g j c m 0 F) (ho : DE g k Λ X W o fo)
    (ht : eval (.Call (.Attribute o m apos) [] [] pos) X.env = (do
      let ov ← eval o X.env
      standAt apos.atName
      let (f, first) ← holding [ov] (getMethod ov m pl)
      callWith pos f first (backTo pos (starEach [] X.env)) (backToKw pos (keywordEach [] X.env))) := by rfl) : DE g k Λ X W (.Call (.Attribute o m apos) [] [] pos) (bMeth tab m fo bNil) := fun ok tk => by
  refine ⟨fun pins s σ H Q I h => ?_⟩
  obtain ⟨c, F, hF, q⟩ := meth_rd (pl := pl) (t := tNil) bNil_len (fun R H1 ⟨ι, ρ, μ, r, l, m, e, p⟩ => by cases e; exact p ι H1 [] (.refl _ _) m rfl) h
  obtain ⟨f, fd, ps, h1, h2, h3, h4⟩ := (M c F hF).ex
  exact (pe_methX0 (pl := pl) (E := WE W) (ho ok tk) (by rw [ok.K]; exact h1) (by rw [ok.K]; exact h2) (by rw [ok.P, ok.w, ok.K, ok.mg, ok.base]; exact h4) (ok.room.mono hj) (by rw [ok.K]; exact h3) (fun σ => by rw [← ok.P, ← ok.w]; exact passAt tk σ) ht).run pins s σ H Q I q
end
end Mi

set_option Elab.async false
set_option linter.all false
set_option maxRecDepth 100000
set_option maxHeartbeats 4000000
namespace Mi
open PySem L2
section
variable {g : Gb} {k j : Nat} {Λ : Lr} {X : Cx} {W : WX} {a o e : Expr} {es : List Expr} {fo : Cb D} {fs : Cb (List D)} {pos apos p : Pos} {f m c : Str} {n : Nat} {Fs : FnS} {tab : List (Str × FnS)}
theorem new_ins {ι : List Addr} {H : Hp} {μ : Sto} (m : MR g Λ ι H μ) (c : Str) {x dx : Addr} (hx : H x = none) (hdx : H dx = none) (ne : dx ≠ x) :
    Ext ι H (ι ++ [x]) (upd (upd H dx (.own x)) x (.ins (g.cls c) dx [])) ∧ MR g Λ (ι ++ [x]) (upd (upd H dx (.own x)) x (.ins (g.cls c) dx [])) (μ ++ [.ins c [] []]) ∧ Rep g.K Λ (ι ++ [x]) (upd (upd H dx (.own x)) x (.ins (g.cls c) dx [])) (.ref μ.length) (.ref x) := by
  have hx1 : upd H dx (.own x) x = none := by rw [upd_ne (fun z => ne z.symm)]; exact hx
  have s1 : Sam H (upd H dx (.own x)) := sam_upd hdx
  have s2 : Sam (upd H dx (.own x)) (upd (upd H dx (.own x)) x (.ins (g.cls c) dx [])) := sam_upd hx1
  have s : Sam H (upd (upd H dx (.own x)) x (.ins (g.cls c) dx [])) := fun a o h => s2 a o (s1 a o h)
  have ex : Ext ι H (ι ++ [x]) (upd (upd H dx (.own x)) x (.ins (g.cls c) dx [])) := ⟨⟨[x], rfl, fun a ha => by rw [show a = x by simpa using ha]; exact .of_none hx⟩, fun a o h _ _ => s a o h, fun a n o h => n o (s a o h)⟩
  have fx := m.fresh hx
  have fd := m.fresh hdx
  refine ⟨ex, ⟨by simp [m.len], ?_, fun i so q => ?_, m.tabs.ext s, fun b hb h => m.avs b hb (ex.nt b h)⟩, ⟨x, rfl, by rw [← m.len, List.getElem?_concat_length]⟩⟩
  · refine List.nodup_append.mpr ⟨m.nd, by simp, fun b hb d hd => ?_⟩
    rw [show d = x by simpa using hd]
    intro z
    rw [z] at hb
    exact fx.1 hb
  · by_cases hn : i < μ.length
    · rw [List.getElem?_append_left hn] at q
      obtain ⟨b, h1, h2⟩ := m.ob i so q
      exact ⟨b, ex.get h1, h2.ext ex s⟩
    · have hl : i = μ.length := by
        have := (List.getElem?_eq_some_iff.mp q).1
        simp at this
        omega
      subst hl
      rw [List.getElem?_concat_length] at q
      cases q
      refine ⟨x, by rw [← m.len, List.getElem?_concat_length], dx, [], upd_same, ⟨fun z => ?_, fd.2⟩, by rw [upd_ne ne, upd_same], rfl, rfl⟩
      rcases List.mem_append.mp z with z | z
      · exact fd.1 z
      · exact ne (by simpa using z)
theorem make_rd {ft : Cb (List D)} {t : TA} (hlen : ∀ ρ μ ds μ1, ft ρ μ = some (.ok ds μ1) → ds.length = n) {σ : St} {H : Hp} {Q : VK} (ht : ∀ R : List V → Hp → Prop, ∀ H1, rdA g Λ W ft σ H1 R → t σ H1 R) (h : rdE g Λ W (bMake c Fs ft) σ H Q) :
    tMakeX (g.cls c) (spM g (n + 1) Fs) (WE W) t σ H Q := by
  obtain ⟨ι, ρ, μ, r, l, mm, e, p⟩ := h
  refine ht _ _ (go_A l mm e p.px fun ds μ2 ι2 H2 vs e1 e3 x2 m2 l2 r2 => ?_)
  have p2 := p.ext x2
  intro x dx hx hdx ne
  obtain ⟨y1, y2, y3⟩ := new_ins m2 c hx hdx ne
  have p3 := p2.ext y1
  split at e3
  · rename_i hp
    have lf : lamfs (.ref μ2.length :: ds) = true := by simpa [lamfs, lamf] using hp
    split at e3
    · rename_i μ3 hF
      cases e3
      refine ⟨by rw [List.length_cons, ← r2.len, hlen _ _ _ _ e1], Λ, ι2 ++ [x], .ref μ2.length :: ds, μ2 ++ [.ins c [] []], _, y2, Reps.lam (Λ := Λ) (Λ' := Λ.pure) rfl _ lf ⟨_, vs, rfl, y3, Reps.ext y1 ds r2⟩, hF, fun ι' H' v e m' rv => ?_⟩
      cases (show v = .non from rv)
      exact ⟨rfl, p3 ι' H' _ e m' (Rep.ext e (.ref μ2.length) y3)⟩
    · rename_i ec μ3 hF
      cases e3
      exact ⟨by rw [List.length_cons, ← r2.len, hlen _ _ _ _ e1], Λ, ι2 ++ [x], .ref μ2.length :: ds, μ2 ++ [.ins c [] []], _, y2, Reps.lam (Λ := Λ) (Λ' := Λ.pure) rfl _ lf ⟨_, vs, rfl, y3, Reps.ext y1 ds r2⟩, hF, fun ι' H' e m' => p3 ι' H' e m'⟩
    · cases e3
  · cases e3
theorem de_make (M : KC g j c n Fs) (hj : j + 1 ≤ k) (ha : DA g k Λ X W (e :: es) fs) (hlen : ∀ ρ μ ds μ1, fs ρ μ = some (.ok ds μ1) → ds.length = n) (hg : Gl X c := by rfl) (hdb : (c == ("__debug__" : Str)) = false := by decide)
    (he : starEach (e :: es) X.env = (false, eval e X.env) :: starEach es X.env := by rfl) (hpl : (backTo pos (starEach es X.env)).any (·.1) = false := by rfl) : DE g k Λ X W (.Call (.Name c p) (e :: es) [] pos) (bMake c Fs fs) := fun ok tk => by
  obtain ⟨f, fd, ps, h1, h2, h3, h4⟩ := M.ex
  exact PE.imp (pe_makeX (E := WE W) (by rw [ok.K]; exact h2) (by rw [ok.P, ok.w, ok.K, ok.mg, ok.base]; exact h4) (ok.room.mono hj) hg (by rw [ok.mg]; exact h1) (by rw [ok.K]; exact h3) (fun σ => by rw [← ok.P, ← ok.w]; exact passAt tk σ) (ha ok tk) hdb he hpl) fun σ H Q h => make_rd hlen (fun _ _ h => h) h
theorem de_make0 (M : KC g j c 0 Fs) (hj : j + 1 ≤ k) (hg : Gl X c := by rfl) (hdb : (c == ("__debug__" : Str)) = false := by decide) : DE g k Λ X W (.Call (.Name c p) [] [] pos) (bMake c Fs bNil) := fun ok tk => by
  obtain ⟨f, fd, ps, h1, h2, h3, h4⟩ := M.ex
  exact PE.imp (pe_makeX0 (E := WE W) (by rw [ok.K]; exact h2) (by rw [ok.P, ok.w, ok.K, ok.mg, ok.base]; exact h4) (ok.room.mono hj) hg (by rw [ok.mg]; exact h1) (by rw [ok.K]; exact h3) (fun σ => by rw [← ok.P, ← ok.w]; exact passAt tk σ) hdb) fun σ H Q h => make_rd bNil_len (fun R H1 ⟨ι, ρ, μ, r, l, m, e, p⟩ => by cases e; exact p ι H1 [] (.refl _ _) m rfl) h
/-- a method's promise, a class's making, by the def's body -/
theorem mc_of {x q : Str} {st : Stmt} {f cc : Addr} {fd : FuncData} {ps : List Str} {F : FnS} (FC : FunC g.K x q st f cc fd) (cl : Cls g.K (g.cls c)) (hm : Meth g.K (g.cls c) m f) (hb : Binds g.K fd ps []) (hF : FnOk g.P g.w g.K g.mg g.base (L2.CX g.P g.w) k f fd ps (spM g (n + 1) F)) : MC g k c m n F :=
  ⟨f, fd, ps, cl, hm, hb, hF⟩
end
end Mi

set_option Elab.async false
set_option linter.all false
set_option maxRecDepth 100000
set_option maxHeartbeats 4000000
namespace Mi
open PySem L2
/-! ### dicts of the store -/
def dctD (μ : Sto) : D → Option (List Key × List D)
  | .dct ks xs => some (ks, xs)
  | .ref n => match μ[n]? with
    | some (.dct ks xs) => some (ks, xs)
    | _ => none
  | _ => none
def hasK (ks : List Key) (k : Key) : Bool := ks.any fun j => decide (j = k)
def putKD (ks : List Key) (xs : List D) (k : Key) (y : D) : List Key × List D := if hasK ks k = true then (ks, (ks.zip xs).map fun p => if p.1 = k then y else p.2) else (ks ++ [k], xs ++ [y])
def dropKD (ks : List Key) (xs : List D) (k : Key) : List Key × List D := (((ks.zip xs).filter fun p => decide (p.1 ≠ k)).map (·.1), ((ks.zip xs).filter fun p => decide (p.1 ≠ k)).map (·.2))
def dInA (μ : Sto) (x y : D) : Option D := match dctD μ y with
  | some (ks, _) => (match keyD x with
    | some k => some (.bl (hasK ks k))
    | none => none)
  | none => dIn μ x y
def dNinA (μ : Sto) (x y : D) : Option D := match dctD μ y with
  | some (ks, _) => (match keyD x with
    | some k => some (.bl (!hasK ks k))
    | none => none)
  | none => dNin μ x y
def dIxA (μ : Sto) (x y : D) : Option D := match dctD μ x with
  | some (ks, xs) => (match keyD y with
    | some k => valD ks xs k
    | none => none)
  | none => dIx μ x y
section
variable {g : Gb} {k j : Nat} {Λ : Lr} {X : Cx} {W : WX} {ι : List Addr} {H : Hp} {μ : Sto}
theorem dct_rd (m : MR g Λ ι H μ) {d : D} {v : V} {ks : List Key} {xs : List D} (r : Rep g.K Λ ι H d v) (e : dctD μ d = some (ks, xs)) : ∃ ad kvs, v = .ref ad ∧ Rd H ad (.dK kvs) ∧ kvs.map (·.1) = ks ∧ Reps g.K Λ ι H xs (kvs.map (·.2)) := by
  unfold dctD at e
  split at e
  · cases e
    obtain ⟨ad, kvs, h1, h2, h3, h4, h5⟩ := r
    exact ⟨ad, kvs, h1, h2, h4, h5⟩
  · split at e
    · rename_i hn
      cases e
      obtain ⟨ad, h1, had⟩ := r
      obtain ⟨b, h3, kvs, h4, h5, h6⟩ := m.ob _ _ hn
      rw [had] at h3
      cases h3
      exact ⟨ad, kvs, h1, .inl h4, h5, Reps.of_pure xs h6⟩
    · cases e
  · cases e
theorem val_some {kvs : List (Key × V)} {j : Key} : (valV kvs j).isSome = hasK (kvs.map (·.1)) j := by
  rw [← valV_any]
  unfold hasK
  rw [List.any_map]
  rfl
theorem dop_inA : DOp g k Λ (compareOp .In) dInA := by
  intro X ok pins s σ H x y v u Q I rx ry ⟨ι, μ, a, b, d, m, ra, rb, e, q⟩
  unfold dInA at e
  split at e
  · rename_i ks xs hd
    split at e
    · rename_i kk hk
      cases e
      obtain ⟨ad, kvs, rfl, h2, h3, h4⟩ := dct_rd m rb hd
      obtain rfl : u = Value.ref ad := ry
      have hx := keyD_rep ra hk
      have hu : X.A.units + 1 < cLine := by have := ok.room.units; omega
      exact d_in hu I (o := valV kvs kk) (.inl ⟨kvs, kk, h2, hx, rfl⟩) rx fun s3 I3 => ⟨.bl (valV kvs kk).isSome, H, I3, rfl, q ι H _ (.refl _ _) m (by show V.bl _ = V.bl _; rw [val_some, h3])⟩
    · cases e
  · exact dop_in X ok pins s σ H x y v u Q I rx ry ⟨ι, μ, a, b, d, m, ra, rb, e, q⟩
theorem dop_ninA : DOp g k Λ (compareOp .NotIn) dNinA := by
  intro X ok pins s σ H x y v u Q I rx ry ⟨ι, μ, a, b, d, m, ra, rb, e, q⟩
  unfold dNinA at e
  split at e
  · rename_i ks xs hd
    split at e
    · rename_i kk hk
      cases e
      obtain ⟨ad, kvs, rfl, h2, h3, h4⟩ := dct_rd m rb hd
      obtain rfl : u = Value.ref ad := ry
      have hx := keyD_rep ra hk
      have hu : X.A.units + 1 < cLine := by have := ok.room.units; omega
      exact d_notIn hu I (o := valV kvs kk) (.inl ⟨kvs, kk, h2, hx, rfl⟩) rx fun s3 I3 => ⟨.bl (!(valV kvs kk).isSome), H, I3, rfl, q ι H _ (.refl _ _) m (by show V.bl _ = V.bl _; rw [val_some, h3])⟩
    · cases e
  · exact dop_nin X ok pins s σ H x y v u Q I rx ry ⟨ι, μ, a, b, d, m, ra, rb, e, q⟩
variable {a b c o e f : Expr} {fa fb fc fo fi fv : Cb D} {pos pos' apos cpos : Pos} {vs : List Nat}
/-- either reading -/
theorem pe_or2 {e : Expr} {t u : TE} (h1 : PE X e t) (h2 : PE X e u) : PE X e (fun σ H Q => t σ H Q ∨ u σ H Q) := ⟨fun pins s σ H Q I h => h.elim (h1.run pins s σ H Q I) (h2.run pins s σ H Q I)⟩
/-- x[y], x a list, a tuple, a text, a dict -/
theorem de_ixA (ha : DE g k Λ X W a fa) (hb : DE g k Λ X W b fb) (hs : PlainIx b := by intro _ _; rfl) (hs2 : NoSl b := by intro _ _; rfl) : DE g k Λ X W (.Subscript a b pos) (bBin dIxA fa fb) := by
  intro ok tk
  refine ⟨fun pins s σ H Q I h => ?_⟩
  obtain ⟨ι, ρ, μ, r, l, m, e, p⟩ := id h
  have back : ∀ o : Sto → D → D → Option D, (∀ x μ1 y μ2, fa ρ μ = some (.ok x μ1) → fb ρ μ1 = some (.ok y μ2) → dIxA μ2 x y = o μ2 x y) → rdE g Λ W (bBin o fa fb) σ H Q := fun o ho => by
    refine ⟨ι, ρ, μ, r, l, m, ?_, p⟩
    have e : ob (fa ρ μ) (fun x μ1 => ob (fb ρ μ1) fun y μ2 => rt (dIxA μ2 x y) μ2) = some r := e
    show ob (fa ρ μ) (fun x μ1 => ob (fb ρ μ1) fun y μ2 => rt (o μ2 x y) μ2) = some r
    cases h1 : fa ρ μ with
    | none => rw [h1] at e; cases e
    | some q1 =>
      rw [h1] at e
      cases q1 with
      | exc c m1 => exact e
      | ok x μ1 =>
        have e : ob (fb ρ μ1) (fun y μ2 => rt (dIxA μ2 x y) μ2) = some r := e
        show ob (fb ρ μ1) (fun y μ2 => rt (o μ2 x y) μ2) = some r
        cases h2 : fb ρ μ1 with
        | none => rw [h2] at e; cases e
        | some q2 =>
          rw [h2] at e
          cases q2 with
          | exc c m2 => exact e
          | ok y μ2 =>
            show rt (o μ2 x y) μ2 = some r
            rw [← ho x μ1 y μ2 h1 h2]
            exact e
  by_cases hd : ∃ x μ1 y μ2, fa ρ μ = some (.ok x μ1) ∧ fb ρ μ1 = some (.ok y μ2) ∧ (dctD μ2 x).isSome = true
  · obtain ⟨x0, μ10, y0, μ20, h1, h2, h3⟩ := hd
    refine (de_get (pos := pos) ha hb hs2 ok tk).run pins s σ H Q I (back dGet fun x μ1 y μ2 g1 g2 => ?_)
    rw [h1] at g1
    cases g1
    rw [h2] at g2
    cases g2
    unfold dIxA dGet
    cases q : dctD μ20 x0 with
    | none => rw [q] at h3; cases h3
    | some kx =>
      obtain ⟨ks, xs⟩ := kx
      dsimp only
      cases hk : keyD y0 with
      | none => rfl
      | some kk =>
        dsimp only
        cases x0 with
        | dct ks' xs' => cases q; rfl
        | ref n =>
          have q : (match μ20[n]? with | some (.dct ks xs) => some (ks, xs) | _ => none) = some (ks, xs) := q
          show valD ks xs kk = (match μ20[n]? with | some (.dct ks xs) => valD ks xs kk | _ => none)
          cases hh : μ20[n]? with
          | none => rw [hh] at q; cases q
          | some so =>
            rw [hh] at q
            cases so with
            | dct a1 a2 => cases q; rfl
            | _ => cases q
        | _ => cases q
  · refine (de_ix (pos := pos) ha hb hs ok tk).run pins s σ H Q I (back dIx fun x μ1 y μ2 g1 g2 => ?_)
    unfold dIxA
    cases q : dctD μ2 x with
    | none => rfl
    | some kx => exact (hd ⟨x, μ1, y, μ2, g1, g2, by rw [q]; rfl⟩).elim
end
end Mi

set_option Elab.async false
set_option linter.all false
set_option maxRecDepth 100000
set_option maxHeartbeats 4000000
namespace Mi
open PySem L2
/-! ### dicts: stores, get, del -/
def subPut (μ2 : Sto) (x y d : D) : Option Sto := match x with
  | .ref n => match μ2[n]? with
    | some (.lst xs) => (match y with
      | .int i => (match ixN xs.length i with
        | some j => if lamf d = true then some (μ2.set n (.lst (xs.set j d))) else none
        | none => none)
      | _ => none)
    | some (.dct ks xs) => (match keyD y with
      | some k => if ks.length < 16777216 ∧ lamf d = true then some (μ2.set n (.dct (putKD ks xs k d).1 (putKD ks xs k d).2)) else none
      | none => none)
    | _ => none
  | _ => none
def tgSubA (fo fi : Cb D) : Tg := fun d ρ μ => match fo ρ μ with
  | some (.ok x μ1) => (match fi ρ μ1 with
    | some (.ok y μ2) => (match subPut μ2 x y d with
      | some μ3 => some (ρ, μ3)
      | none => none)
    | _ => none)
  | _ => none
def bDNew : Cb D := fun _ μ => some (.ok (.ref μ.length) (μ ++ [.dct [] []]))
def dGet2 (μ : Sto) (x y z : D) : Option D := match dctD μ x with
  | some (ks, xs) => (match keyD y with
    | some k => if hasK ks k = true then valD ks xs k else some z
    | none => none)
  | none => none
def isDct (μ : Sto) (x : D) : Bool := (dctD μ x).isSome
def bGet1 (fo fi : Cb D) : Cb D := fun ρ μ => ob (fo ρ μ) fun x μ1 => if isDct μ1 x = true then ob (fi ρ μ1) fun y μ2 => rt (dGet2 μ2 x y .non) μ2 else none
def bGet2 (fo fi fz : Cb D) : Cb D := fun ρ μ => ob (fo ρ μ) fun x μ1 => if isDct μ1 x = true then ob (fi ρ μ1) fun y μ2 => ob (fz ρ μ2) fun z μ3 => rt (dGet2 μ3 x y z) μ3 else none
section
variable {g : Gb} {k j : Nat} {Λ : Lr} {X : Cx} {W : WX} {ι : List Addr} {H : Hp} {μ : Sto}
theorem putK_rd {j : Key} {y : D} {u : V} (hy : Rep g.K Λ ι H y u) {ks : List Key} {xs : List D} {kvs : List (Key × V)} (h : kvs.map (·.1) = ks) (hr : Reps g.K Λ ι H xs (kvs.map (·.2))) : (putK kvs j u).map (·.1) = (putKD ks xs j y).1 ∧ Reps g.K Λ ι H (putKD ks xs j y).2 ((putK kvs j u).map (·.2)) := by
  have hk : hasK ks j = (kvs.any fun kv => decide (kv.1 = j)) := by
    unfold hasK
    rw [← h, List.any_map]
    rfl
  unfold putK putKD
  rw [hk]
  by_cases q : (kvs.any fun kv => decide (kv.1 = j)) = true
  · rw [if_pos q, if_pos q]
    constructor
    · rw [List.map_map, ← h]
      apply List.map_congr_left
      intro kv _
      show (if kv.1 = j then (kv.1, u) else kv).1 = kv.1
      split <;> rfl
    · clear q hk
      induction kvs generalizing ks xs with
      | nil =>
        subst h
        have : xs = [] := by
          have := hr.len
          simpa using this
        subst this
        rfl
      | cons kv r ih =>
        subst h
        cases xs with
        | nil => have := hr.len; cases this
        | cons x xs =>
          obtain ⟨v, rr, h1, h2, h3⟩ := hr
          rw [List.map_cons, List.cons.injEq] at h1
          have := ih (ks := r.map (·.1)) (xs := xs) rfl (by rw [h1.2]; exact h3)
          refine ⟨_, _, rfl, ?_, this⟩
          show Rep g.K Λ ι H (if kv.1 = j then y else x) (if kv.1 = j then (kv.1, u) else kv).2
          split
          · exact hy
          · have e : kv.2 = v := h1.1
            rw [e]; exact h2
  · rw [if_neg q, if_neg q]
    refine ⟨by rw [List.map_append, h]; rfl, ?_⟩
    rw [List.map_append]
    exact Reps.app hr (Reps.one hy)
theorem rSub_rd (m2 : MR g Λ ι H μ) {x y d : D} {ov iv v : V} {μ3 : Sto} (rx : Rep g.K Λ ι H x ov) (ry : Rep g.K Λ ι H y iv) (rd : Rep g.K Λ ι H d v) (e : subPut μ x y d = some μ3) {Q : Hp → Prop} (hq : ∀ H', Ext ι H ι H' → MR g Λ ι H' μ3 → Q H') :
    rSetL ov iv v H Q ∨ ∃ a H4, ov = .ref a ∧ DPut H a iv v H4 ∧ Q H4 := by
  unfold subPut at e
  split at e
  · rename_i n
    split at e
    · rename_i xs q3
      split at e
      · rename_i i
        split at e
        · rename_i jj q4
          split at e
          · rename_i hl
            cases e
            obtain ⟨ad, rfl, ha⟩ := rx
            cases ry
            obtain ⟨ad', h1, us, h2, h3⟩ := m2.ob n _ q3
            rw [ha] at h1
            cases h1
            have rs : Reps g.K Λ ι H (xs.set jj d) (us.set jj v) := Reps.set jj (Reps.of_pure _ h3) rd
            have lf : lamfs (xs.set jj d) = true := lamfs_set hl (pure_lamfs h3)
            obtain ⟨y1, y2⟩ := m2.set q3 ha lf rs
            exact .inl ⟨ad, us, i, jj, rfl, rfl, h2, by rw [← h3.len]; exact q4, hq _ y1 y2⟩
          · cases e
        · cases e
      · cases e
    · rename_i ks xs q3
      split at e
      · rename_i kk hk
        split at e
        · rename_i hl
          cases e
          obtain ⟨ad, rfl, ha⟩ := rx
          obtain ⟨ad', h1, kvs, h2, h4, h5⟩ := m2.ob n _ q3
          rw [ha] at h1
          cases h1
          have hy := keyD_rep ry hk
          have rd' : Rep g.K Λ.pure ι H d v := Rep.lam (Λ := Λ) (Λ' := Λ.pure) rfl d hl.2 rd
          obtain ⟨y1, y2⟩ := putK_rd (j := kk) rd' h4 h5
          obtain ⟨z1, z2⟩ := m2.setO (so := .dct (putKD ks xs kk d).1 (putKD ks xs kk d).2) (o := .dK (putK kvs kk v)) q3 ha (by intro ps z; cases z) fun ex => ⟨putK kvs kk v, upd_same, y1, Reps.ext ex _ y2⟩
          have hlen : kvs.length < sizeLine := by
            rw [sizeLine_eq]
            have := hl.1
            rw [← h4, List.length_map] at this
            omega
          exact .inr ⟨ad, _, rfl, .inl ⟨kvs, kk, h2, hy, hlen, rfl⟩, hq _ z1 z2⟩
        · cases e
      · cases e
    · cases e
  · cases e
theorem set_all (hu : X.A.units + 1 < cLine) : PSet X (fun o i v H Q => rSetL o i v H Q ∨ ∃ a H4, o = .ref a ∧ DPut H a i v H4 ∧ Q H4) := by
  intro pins s σ H o i v ov iv u Q I ro ri rv h
  rcases h with h | ⟨a, H4, rfl, hp, q⟩
  · exact set_list pins s σ H o i v ov iv u Q I ro ri rv h
  · obtain rfl : ov = Value.ref a := ro
    exact d_setItem hu I hp ri rv fun s3 I3 => ⟨H4, I3, q⟩
variable {a b c o e f : Expr} {fa fb fc fo fi fv fz : Cb D} {pos pos' apos cpos : Pos} {vs : List Nat}
theorem dg_subA (ho : DE g k Λ X W a fo) (hi : DE g k Λ X W b fi) (hs : ∀ v, assign (.Subscript a b pos) X.env v = (do
      let ov ← holding [v] (eval a X.env)
      let iv ← holding [v, ov] (eval b X.env)
      standAt pos
      holding [v, ov, iv] (setItem ov iv v)
      release [v, ov, iv] []) := by intro _; rfl) : DG g k Λ X W vs (.Subscript a b pos) (tgSubA fo fi) := fun ok tk =>
  PG.imp (pg_sub (ho ok tk) (hi ok tk) (set_all (by have := ok.room.units; omega)) hs) fun v σ H Q ⟨ι, ρ, μ, d, ρ', μ', l, m, r, e, p⟩ => by
    unfold tgSubA at e
    split at e
    · rename_i x μ1 q1
      refine ⟨ι, ρ, μ, _, l, m, q1, fun ι1 H1 v1 x1 m1 r1 => ?_⟩
      split at e
      · rename_i y μ2 q2
        refine ⟨ι1, ρ, μ1, _, l.ext x1, m1, q2, fun ι2 H2 v2 x2 m2 r2 => ?_⟩
        split at e
        · rename_i μ3 q3
          cases e
          exact rSub_rd m2 (Rep.ext x2 x r1) r2 (Rep.ext (x1.trans x2) d r) q3 fun H' y1 y2 => p ι2 H' σ ((x1.trans x2).trans y1) y2 (l.ext ((x1.trans x2).trans y1)) rfl
        · cases e
      · cases e
    · cases e
theorem de_dnew : DE g k Λ X W (.Dict [] [] pos) bDNew := fun ok tk => PE.imp pe_dnewK fun σ H Q ⟨ι, ρ, μ, r, l, m, e, p⟩ => by
  cases e
  intro q hq
  have ex : Ext ι H (ι ++ [q]) (upd H q (.dK [])) := ext_push hq
  refine p _ _ (.ref q) ex ⟨by simp [m.len], ?_, fun n so h => ?_, m.tabs.ext (sam_upd hq), fun b hb h => m.avs b hb (ex.nt b h)⟩ ⟨q, rfl, by rw [← m.len, List.getElem?_concat_length]⟩
  · refine List.nodup_append.mpr ⟨m.nd, by simp, fun b hb d hd => ?_⟩
    rw [show d = q by simpa using hd]
    intro z
    rw [z] at hb
    exact (m.fresh hq).1 hb
  · by_cases hn : n < μ.length
    · rw [List.getElem?_append_left hn] at h
      obtain ⟨b, h1, h2⟩ := m.ob n so h
      exact ⟨b, ex.get h1, h2.ext ex (sam_upd hq)⟩
    · have hl : n = μ.length := by
        have := (List.getElem?_eq_some_iff.mp h).1
        simp at this
        omega
      subst hl
      rw [List.getElem?_concat_length] at h
      cases h
      exact ⟨q, by rw [← m.len, List.getElem?_concat_length], [], upd_same, rfl, rfl⟩
theorem get_rd (m : MR g Λ ι H μ) {x y z d : D} {ad : Addr} {yv zv : V} (rx : Rep g.K Λ ι H x (.ref ad)) (ry : Rep g.K Λ ι H y yv) (rz : Rep g.K Λ ι H z zv) (e : dGet2 μ x y z = some d) : ∃ o, DGet H ad yv o ∧ Rep g.K Λ ι H d (o.getD zv) := by
  unfold dGet2 at e
  split at e
  · rename_i ks xs hd
    split at e
    · rename_i kk hk
      obtain ⟨ad', kvs, h1, h2, h3, h4⟩ := dct_rd m rx hd
      cases h1
      refine ⟨valV kvs kk, .inl ⟨kvs, kk, h2, keyD_rep ry hk, rfl⟩, ?_⟩
      have hs := val_some (kvs := kvs) (j := kk)
      rw [h3] at hs
      split at e
      · obtain ⟨w, y1, y2⟩ := val_rd h3 h4 e
        rw [y1]
        exact y2
      · rename_i hn
        cases e
        have : valV kvs kk = none := by
          cases q : valV kvs kk with
          | none => rfl
          | some w => rw [q] at hs; exact (hn hs.symm).elim
        rw [this]
        exact rz
    · cases e
  · cases e
theorem isD_rd (m : MR g Λ ι H μ) {x : D} {v : V} (rx : Rep g.K Λ ι H x v) (h : isDct μ x = true) : ∃ ad, v = .ref ad ∧ IsD H ad := by
  unfold isDct at h
  cases q : dctD μ x with
  | none => rw [q] at h; cases h
  | some kx =>
    obtain ⟨ks, xs⟩ := kx
    obtain ⟨ad, kvs, h1, h2, _⟩ := dct_rd m rx q
    exact ⟨ad, h1, .inl ⟨kvs, h2⟩⟩
theorem de_get1 (ho : DE g k Λ X W o fo) (hi : DE g k Λ X W e fi) (hm : M1 X o "get" apos e cpos := by exact ⟨rfl, rfl, rfl, rfl⟩) : DE g k Λ X W (.Call (.Attribute o "get" apos) [e] [] cpos) (bGet1 fo fi) := fun ok tk =>
  PE.imp (pe_dget1 (by have := ok.room.units; omega) (ho ok tk) (hi ok tk) hm) fun σ H Q ⟨ι, ρ, μ, r, l, m, e, p⟩ => go_E (X1 := True) l m e p.px fun x μ1 ι1 H1 v e1 e2 x1 m1 l1 r1 => by
    split at e2
    · rename_i hd
      obtain ⟨ad, rfl, hD⟩ := isD_rd m1 r1 hd
      refine ⟨ad, rfl, hD, go_E (X1 := True) l1 m1 e2 (p.ext x1).px fun y μ2 ι2 H2 yv e3 e4 x2 m2 l2 r2 => ?_⟩
      obtain ⟨z, hz, rfl⟩ := rt_some e4
      obtain ⟨oo, h1, h2⟩ := get_rd (z := .non) (zv := .non) m2 (Rep.ext x2 x r1) r2 rfl hz
      exact ⟨oo, h1, (p.ext x1).ext x2 ι2 H2 _ (.refl _ _) m2 h2⟩
    · cases e2
theorem de_get2 (ho : DE g k Λ X W o fo) (hi : DE g k Λ X W e fi) (hz : DE g k Λ X W f fz) (hm : M2 X o "get" apos e f cpos := by exact ⟨rfl, rfl, rfl, rfl⟩) : DE g k Λ X W (.Call (.Attribute o "get" apos) [e, f] [] cpos) (bGet2 fo fi fz) := fun ok tk =>
  PE.imp (pe_dget2 (by have := ok.room.units; omega) (ho ok tk) (hi ok tk) (hz ok tk) hm) fun σ H Q ⟨ι, ρ, μ, r, l, m, e, p⟩ => go_E (X1 := True) l m e p.px fun x μ1 ι1 H1 v e1 e2 x1 m1 l1 r1 => by
    split at e2
    · rename_i hd
      obtain ⟨ad, rfl, hD⟩ := isD_rd m1 r1 hd
      refine ⟨ad, rfl, hD, go_E (X1 := True) l1 m1 e2 (p.ext x1).px fun y μ2 ι2 H2 yv e3 e4 x2 m2 l2 r2 => go_E (X1 := True) l2 m2 e4 ((p.ext x1).ext x2).px fun z μ3 ι3 H3 zv e5 e6 x3 m3 l3 r3 => ?_⟩
      obtain ⟨w, hw, rfl⟩ := rt_some e6
      obtain ⟨oo, h1, h2⟩ := get_rd m3 (Rep.ext (x2.trans x3) x r1) (Rep.ext x3 y r2) r3 hw
      exact ⟨oo, h1, ((p.ext x1).ext x2).ext x3 ι3 H3 _ (.refl _ _) m3 h2⟩
    · cases e2
end
end Mi

set_option Elab.async false
set_option linter.all false
set_option maxRecDepth 100000
set_option maxHeartbeats 4000000
namespace Mi
open PySem L2
/-! ### is None; d[k] op= v; del d[k]; len(d); x.f op= v -/
def isNon : D → Bool
  | .non => true
  | _ => false
def dIsN (_ : Sto) (x y : D) : Option D := match y with
  | .non => some (.bl (isNon x))
  | _ => none
def dNotN (_ : Sto) (x y : D) : Option D := match y with
  | .non => some (.bl (!isNon x))
  | _ => none
def dctGet (μ : Sto) (x y : D) : Option D := match dctD μ x with
  | some (ks, xs) => (match keyD y with
    | some k => valD ks xs k
    | none => none)
  | none => none
def dctPut (μ : Sto) (x y d : D) : Option Sto := match x with
  | .ref n => match μ[n]? with
    | some (.dct ks xs) => (match keyD y with
      | some k => if ks.length < 16777216 ∧ lamf d = true then some (μ.set n (.dct (putKD ks xs k d).1 (putKD ks xs k d).2)) else none
      | none => none)
    | _ => none
  | _ => none
def cDAug (fo fi : Cb D) (o : Sto → D → D → Option (D × Sto)) (fv : Cb D) : Cs := fun ρ μ => obS (fo ρ μ) ρ fun x μ1 => obS (fi ρ μ1) ρ fun y μ2 => match dctGet μ2 x y with
  | some v => obS (fv ρ μ2) ρ fun d μ3 => (match o μ3 v d with
    | some (z, μ4) => (match dctPut μ4 x y z with
      | some μ5 => some (.nx ρ μ5)
      | none => none)
    | none => none)
  | none => none
def cFldAug (cs : List Str) (f : Str) (fo : Cb D) (o : Sto → D → D → Option (D × Sto)) (fv : Cb D) : Cs := fun ρ μ => obS (fo ρ μ) ρ fun x μ1 => match insD μ1 x with
  | some (_, c, fs, xs) => if c ∈ cs then (match lkD fs xs f with
    | some v => obS (fv ρ μ1) ρ fun d μ2 => (match o μ2 v d with
      | some (z, μ3) => (match fldPut μ3 [c] f x z with
        | some μ4 => some (.nx ρ μ4)
        | none => none)
      | none => none)
    | none => none) else none
  | none => none
def dLenA (μ : Sto) : List D → Option D
  | [.ref n] => (match μ[n]? with
    | some (.dct ks _) => some (.int ks.length)
    | _ => dLen μ [.ref n])
  | ds => dLen μ ds
section
variable {g : Gb} {k j : Nat} {Λ : Lr} {X : Cx} {W : WX} {ι : List Addr} {H : Hp} {μ : Sto}
theorem isNon_rep {x : D} {v : V} (r : Rep g.K Λ ι H x v) : decide (v = .non) = isNon x := by
  cases x with
  | non => cases r; rfl
  | bl b => cases r; rfl
  | int i => cases r; rfl
  | str s => cases r; rfl
  | tup xs => obtain ⟨a, vs, rfl, _⟩ := r; rfl
  | lst xs => obtain ⟨a, vs, rfl, _⟩ := r; rfl
  | dct ks xs => obtain ⟨a, vs, rfl, _⟩ := r; rfl
  | ref n => obtain ⟨a, rfl, _⟩ := r; rfl
  | lam n => obtain ⟨a, c, q, o, rfl, _⟩ := r; rfl
  | scr ns => obtain ⟨a, rfl, _⟩ := r; rfl
theorem dop_isN : DOp g k Λ (compareOp .Is) dIsN := by
  intro X ok pins s σ H x y v u Q I rx ry ⟨ι, μ, a, b, d, m, ra, rb, e, q⟩
  unfold dIsN at e
  split at e
  · cases e
    cases rb
    exact op_isN pins s σ H x _ v u Q I rx ry ⟨rfl, q ι H _ (.refl _ _) m (by show V.bl _ = V.bl _; rw [isNon_rep ra])⟩
  · cases e
theorem dop_notN : DOp g k Λ (compareOp .IsNot) dNotN := by
  intro X ok pins s σ H x y v u Q I rx ry ⟨ι, μ, a, b, d, m, ra, rb, e, q⟩
  unfold dNotN at e
  split at e
  · cases e
    cases rb
    exact op_notN pins s σ H x _ v u Q I rx ry ⟨rfl, q ι H _ (.refl _ _) m (by show V.bl _ = V.bl _; rw [isNon_rep ra])⟩
  · cases e
theorem dctGet_rd (m : MR g Λ ι H μ) {x y d : D} {xv yv : V} (rx : Rep g.K Λ ι H x xv) (ry : Rep g.K Λ ι H y yv) (e : dctGet μ x y = some d) : ∃ a v, xv = .ref a ∧ DGet H a yv (some v) ∧ Rep g.K Λ ι H d v := by
  unfold dctGet at e
  split at e
  · rename_i ks xs hd
    split at e
    · rename_i kk hk
      obtain ⟨ad, kvs, h1, h2, h3, h4⟩ := dct_rd m rx hd
      obtain ⟨w, y1, y2⟩ := val_rd h3 h4 e
      exact ⟨ad, w, h1, .inl ⟨kvs, kk, h2, keyD_rep ry hk, y1.symm⟩, y2⟩
    · cases e
  · cases e
theorem dctPut_rd (m2 : MR g Λ ι H μ) {x y d : D} {ov iv v : V} {μ3 : Sto} (rx : Rep g.K Λ ι H x ov) (ry : Rep g.K Λ ι H y iv) (rd : Rep g.K Λ ι H d v) (e : dctPut μ x y d = some μ3) {Q : Hp → Prop} (hq : ∀ H', Ext ι H ι H' → MR g Λ ι H' μ3 → Q H') :
    ∃ a H4, ov = .ref a ∧ DPut H a iv v H4 ∧ Q H4 := by
  unfold dctPut at e
  split at e
  · rename_i n
    split at e
    · rename_i ks xs q3
      split at e
      · rename_i kk hk
        split at e
        · rename_i hl
          cases e
          obtain ⟨ad, rfl, ha⟩ := rx
          obtain ⟨ad', h1, kvs, h2, h4, h5⟩ := m2.ob n _ q3
          rw [ha] at h1
          cases h1
          have hy := keyD_rep ry hk
          have rd' : Rep g.K Λ.pure ι H d v := Rep.lam (Λ := Λ) (Λ' := Λ.pure) rfl d hl.2 rd
          obtain ⟨y1, y2⟩ := putK_rd (j := kk) rd' h4 h5
          obtain ⟨z1, z2⟩ := m2.setO (so := .dct (putKD ks xs kk d).1 (putKD ks xs kk d).2) (o := .dK (putK kvs kk v)) q3 ha (by intro ps z; cases z) fun ex => ⟨putK kvs kk v, upd_same, y1, Reps.ext ex _ y2⟩
          have hlen : kvs.length < sizeLine := by
            rw [sizeLine_eq]
            have := hl.1
            rw [← h4, List.length_map] at this
            omega
          exact ⟨ad, _, rfl, .inl ⟨kvs, kk, h2, hy, hlen, rfl⟩, hq _ z1 z2⟩
        · cases e
      · cases e
    · cases e
  · cases e
variable {a b c o e f : Expr} {fa fb fc fo fi fv fz : Cb D} {pos pos' apos cpos tpos : Pos} {op : Operator} {oo : Sto → D → D → Option (D × Sto)}
theorem ds_daug (hop : DIp g k Λ op oo) (ho : DE g k Λ X W o fo) (hi : DE g k Λ X W b fi) (hv : DE g k Λ X W a fv)
    (hs : ∀ ov iv new, augStore b ov iv new = (do holding [new, ov, iv] (setItem ov iv new); release [new, ov, iv] []; pure .next) := by intro _ _ _; rfl) : DS g k Λ X W (.AugAssign (.Subscript o b tpos) op a pos) (cDAug fo fi oo fv) := fun ok tk =>
  PS.imp (ps_daug (by have := ok.room.units; omega) (ho ok tk) (hi ok tk) (hv ok tk) (hop X ok) hs) fun E σ H ⟨ι, ρ, μ, r, l, m, e, p⟩ => goS_E l m e p fun x μ1 ι1 H1 xv e1 e2 x1 m1 l1 r1 => goS_E l1 m1 e2 (p.ext x1) fun y μ2 ι2 H2 yv e3 e4 x2 m2 l2 r2 => by
    split at e4
    · rename_i v hg
      obtain ⟨ad, w, h1, h2, h3⟩ := dctGet_rd m2 (Rep.ext x2 x r1) r2 hg
      refine ⟨ad, w, h1, h2, goS_E l2 m2 e4 ((p.ext x1).ext x2) fun d μ3 ι3 H3 dv e5 e6 x3 m3 l3 r3 => ?_⟩
      split at e6
      · rename_i z μ4 hz
        split at e6
        · rename_i μ5 hput
          cases e6
          refine ⟨ι3, μ3, v, d, z, μ4, m3, Rep.ext x3 v h3, r3, hz, fun ι4 H4 zv x4 m4 r4 => ?_⟩
          obtain ⟨ad', H5, g1, g2, g3⟩ := dctPut_rd m4 (Rep.ext (x2.trans (x3.trans x4)) x r1) (Rep.ext (x3.trans x4) y r2) r4 hput (Q := fun H5 => E.nx σ H5) fun H5 y1 y2 => (((p.ext x1).ext x2).ext (x3.trans x4)).ext y1 ι4 H5 σ (.refl _ _) y2 (l3.ext (x4.trans y1))
          rw [h1] at g1
          cases g1
          exact ⟨H5, g2, g3⟩
        · cases e6
      · cases e6
    · cases e4
theorem dc_lenA : DCall g k Λ (.builtin "len") dLenA := by
  intro X ok pins s σ H xs us Q I r ⟨ι, μ, ds, d, m, rs, e, q⟩
  unfold dLenA at e
  split at e
  · rename_i n
    split at e
    · rename_i ks xs' hn
      cases e
      obtain ⟨v, rfl, ad, rfl, ha⟩ := rs.inv1
      obtain ⟨ad', h1, kvs, h2, h4, h5⟩ := m.ob n _ hn
      rw [ha] at h1
      cases h1
      exact call_lenD pins s σ H _ us Q I r ⟨ad, kvs, rfl, h2, q ι H _ (.refl _ _) m (by show V.int _ = V.int _; rw [← h4, List.length_map])⟩
    · exact dc_len X ok pins s σ H xs us Q I r ⟨ι, μ, _, d, m, rs, e, q⟩
  · exact dc_len X ok pins s σ H xs us Q I r ⟨ι, μ, _, d, m, rs, e, q⟩
theorem put_sto2 (m1 : MR g Λ ι H μ) {x y : D} {v u : V} {μ3 : Sto} {cs : List Str} {f : Str} (hc : ∀ c ∈ cs, CF g c f) (rx : Rep g.K Λ ι H x v) (ry : Rep g.K Λ ι H y u) (e : fldPut μ cs f x y = some μ3) :
    ∃ ad c dx vfs, v = .ref ad ∧ H ad = some (.ins (g.cls c) dx vfs) ∧ c ∈ cs ∧ CF g c f ∧ vfs.length < 1000 ∧ Ext ι H ι (upd H ad (.ins (g.cls c) dx (putF f u vfs))) ∧ MR g Λ ι (upd H ad (.ins (g.cls c) dx (putF f u vfs))) μ3 := by
  unfold fldPut at e
  split at e
  · rename_i nn cc gs xs hi
    split at e
    · rename_i hcs
      cases e
      obtain ⟨rfl, hn, ad, dx, vfs, rfl, h1, h2, h3, h4, h5, h6⟩ := ins_rd m1 rx hi
      have hdx : dx ≠ ad := fun z => by rw [z, h2] at h4; cases h4
      have ry' : Rep g.K Λ.pure ι H y u := Rep.lam (Λ := Λ) (Λ' := Λ.pure) rfl y hcs.2.2 ry
      obtain ⟨y1, y2⟩ := put_rd (Λ := Λ.pure) (f := f) ry' h5 h6
      obtain ⟨z1, z2⟩ := m1.setO (so := .ins cc (putD gs xs f y).1 (putD gs xs f y).2) (o := .ins (g.cls cc) dx (putF f u vfs)) hn h1 (by intro ps z; cases z) fun ex => ⟨dx, putF f u vfs, upd_same, h3, by rw [upd_ne hdx]; exact h4, y1, Reps.ext ex _ y2⟩
      exact ⟨ad, cc, dx, vfs, rfl, h2, hcs.1, hc cc hcs.1, by rw [← List.length_map (f := (·.1)), h5]; exact hcs.2.1, z1, z2⟩
    · cases e
  · cases e
theorem ds_fldaug {cs : List Str} {f : Str} (hc : ∀ c ∈ cs, CF g c f) (hop : DIp g k Λ op oo) (ho : DE g k Λ X W o fo) (hv : DE g k Λ X W a fv) : DS g k Λ X W (.AugAssign (.Attribute o f tpos) op a pos) (cFldAug cs f fo oo fv) := fun ok tk =>
  PS.imp (ps_fldaug (ho ok tk) (hv ok tk) (hop X ok)) fun E σ H ⟨ι, ρ, μ, r, l, m, e, p⟩ => goS_E l m e p fun x μ1 ι1 H1 xv e1 e2 x1 m1 l1 r1 => by
    split at e2
    · rename_i n c fs xs hi
      split at e2
      · rename_i hcs
        split at e2
        · rename_i v hlk
          obtain ⟨rfl, hn, ad, dx, vfs, rfl, h1, h2, h3, h4, h5, h6⟩ := ins_rd m1 r1 hi
          have cf := hc c hcs
          obtain ⟨w, w1, w2⟩ := lk_rd h5 (Reps.of_pure _ h6) hlk
          refine ⟨ad, g.cls c, dx, vfs, w, rfl, h2, by rw [ok.K]; exact cf.cl, by rw [ok.K]; exact cf.no, w1, goS_E l1 m1 e2 (p.ext x1) fun d μ2 ι2 H2 dv e5 e6 x2 m2 l2 r2 => ?_⟩
          split at e6
          · rename_i z μ3 hz
            split at e6
            · rename_i μ4 hput
              cases e6
              refine ⟨ι2, μ2, v, d, z, μ3, m2, Rep.ext x2 v w2, r2, hz, fun ι3 H3 zv x3 m3 r3 => ?_⟩
              obtain ⟨ad', cc, dx', vfs', g1, g2, g0, g3, g4, g5, g6⟩ := put_sto2 (cs := [c]) m3 (fun c' hc' => by rw [show c' = c by simpa using hc']; exact cf) (Rep.ext (x2.trans x3) (.ref n) r1) r3 hput
              cases g1
              rw [show cc = c by simpa using g0] at g2 g5 g6
              exact ⟨dx', vfs', g2, g4, ((p.ext x1).ext (x2.trans x3)).ext g5 ι3 _ σ (.refl _ _) g6 (l2.ext (x3.trans g5))⟩
            · cases e6
          · cases e6
        · cases e2
      · cases e2
    · cases e2
end
end Mi

set_option Elab.async false
set_option linter.all false
set_option maxRecDepth 100000
set_option maxHeartbeats 4000000
namespace GxP
open PySem PySem.Spec PyProof.Rows L2 GenW
/-! ### generator expressions: the generator's side -/
def spin (S : Option Addr) (acc : Array Value) (c : Nat) : List (Addr × Obj) := match S with
  | none => []
  | some a => [(a, lstObj acc c)]
theorem spin_mem {S : Option Addr} {acc : Array Value} {c : Nat} {p : Addr × Obj} (h : p ∈ spin S acc c) : S = some p.1 ∧ p.2 = lstObj acc c := by
  cases S with
  | none => cases h
  | some a =>
    rw [List.mem_singleton.mp h]
    exact ⟨rfl, rfl⟩
/-- while the generator sleeps its consumer changes its own list alone; it then stands for ys -/
structure SleptR (S : Option Addr) (SR : List V → Array Value → Prop) (ys : List V) (s s' : Shared) : Prop where
  os : s'.os = s.os
  bare : AllBare s'.gens
  keep : ∀ b o, some b ≠ S → s.heap.get? b = some o → s'.heap.get? b = some o
  own : ∀ a, S = some a → ∃ acc c, s'.heap.get? a = some (lstObj acc c) ∧ SR ys acc
def ApartO (X : Cx) (S : Option Addr) : Prop := ∀ a, S = some a → X.s_0.heap.objs.size ≤ a ∧ a ≠ X.env.locals ∧ (∀ x c, X.env.cells.lookup x = some c → c ≠ a) ∧ (∀ p ∈ X.pn, p.1 ≠ a) ∧ a ∉ X.ex
/-- running: what is out stands in the consumer's list -/
def GIx (X : Cx) (S : Option Addr) (SR : List V → Array Value → Prop) (ys : List V) (σ : L2.St) (H : Hp) (s : Shared) : Prop :=
  ∃ (acc : Array Value) (c : Nat), (∀ a, S = some a → SR ys acc) ∧ Inv X (spin S acc c) σ H s
section
variable {X : Cx} {S : Option Addr} {SR : List V → Array Value → Prop} {ys ys' : List V} {σ : L2.St} {H : Hp} {s s' : Shared}
theorem GIx.woken (hA : ApartO X S) (h : GIx X S SR ys σ H s) (z : SleptR S SR ys' s s') : GIx X S SR ys' σ H s' := by
  obtain ⟨acc, c, r, I⟩ := h
  have I0 : Inv X [] σ H s := I.pins_of fun p hp => absurd hp (by simp)
  obtain ⟨z1, z2, z3, z4⟩ := z
  obtain ⟨hh, g, d, t, o⟩ := s'
  have ho : o = s.os := z1
  subst ho
  cases S with
  | none =>
    have k : ∀ b o, s.heap.get? b = some o → hh.get? b = some o := fun b o e => z3 b o (by simp) e
    refine ⟨#[], 0, (fun a e => nomatch e), ?_⟩
    show Inv X [] σ H { s with heap := hh, gens := g, drawn := d, toks := t }
    exact I0.step (g' := g) (t' := t) (d' := d) (ch := []) (fun b hb => absurd hb (by simp)) (fun b ob _ _ hc q _ => k b ob q) (fun b ob _ _ hc q _ => ⟨ob.slots, k b ob q⟩) (fun _ _ _ _ n => n) (fun b ob hc q => ⟨ob, k b ob q⟩)
      (fun _ _ q => q) (fun _ _ _ q => q) (fun b ps q => ⟨#[], by rw [q]; simp⟩) (fun m hm => by
        obtain ⟨ob, es, ep, ho, r⟩ := hm
        exact ⟨ob, es, ep, k _ ob ho, r⟩) (fun b u q => (I0.hok b u q).stay (fun c v hc y => k c v y) (fun _ y => y) fun _ _ y => y) z2
  | some a =>
    obtain ⟨eS, hS0, hSL, hSf, _⟩ := I.pin (a, lstObj acc c) (List.mem_append_right _ (List.mem_singleton.mpr rfl))
    obtain ⟨acc', c', eS', hr⟩ := z4 a rfl
    obtain ⟨y1, y2, y3, y4, y5⟩ := hA a rfl
    have nt : ∀ b u, H b = some u → b ≠ a := fun b u q hb => by
      have : H a = none := hS0
      rw [hb, this] at q
      cases q
    have k : ∀ b o, b ≠ a → s.heap.get? b = some o → hh.get? b = some o := fun b o hb e => z3 b o (fun q => hb (Option.some.inj q)) e
    have nc : ∀ b, b ∉ [a] → b ≠ a := fun b hb e => hb (by rw [e]; exact List.mem_singleton.mpr rfl)
    have J : Inv X [] σ H { s with heap := hh, gens := g, drawn := d, toks := t } := by
      refine I0.step (g' := g) (t' := t) (d' := d) (ch := [a]) (fun b hb => ?_)
        (fun b ob _ _ hc q _ => k b ob (nc b hc) q) (fun b ob _ _ hc q _ => ⟨ob.slots, k b ob (nc b hc) q⟩) (fun _ _ _ _ n => n) (fun b ob hc q => ⟨ob, k b ob (nc b hc) q⟩)
        (fun _ _ q => q) (fun _ _ _ q => q) (fun b ps q => ⟨#[], by rw [q]; simp⟩) (fun m hm => ?_) (fun b u q => ?_) z2
      · rw [List.mem_singleton.mp hb]
        refine ⟨.inr y1, y2, y3, fun p hp => ?_⟩
        rcases List.mem_append.mp hp with hp | hp
        · exact y4 p hp
        · cases hp
      · obtain ⟨ob, es, ep, ho, r⟩ := hm
        exact ⟨ob, es, ep, k _ ob (Ne.symm hSL) ho, r⟩
      · refine (I0.hok b u q).stay (fun c v hc y => k c v ?_ y) (fun _ y => y) fun _ _ y => y
        rcases hc with y | y
        · rw [y]; exact nt b u q
        · exact nt c _ y
    refine ⟨acc', c', (fun b e => hr), J.pins_of fun p hp => ?_⟩
    obtain ⟨e1, e2⟩ := spin_mem hp
    cases e1
    rw [e2]
    exact ⟨eS', hS0, hSL, hSf, fun v q => by cases q⟩
end
/-! ### the protocol -/
/-- amid the generator's run the consumer's list stands still -/
def SK (S : Option Addr) (s₀ s : Shared) : Prop := ∀ b, S = some b → s.heap.get? b = s₀.heap.get? b
/-- Stp: the consumer may stop here; Ctn: what it needs to go on -/
def GYx (X : Cx) (S : Option Addr) (SR : List V → Array Value → Prop) (fp : List Addr) (Stp Ctn : List V → V → Hp → Prop) : Protocol := fun n s₀ v s kap =>
  ∃ ys y σ H, RelV y v ∧ GIx X S SR ys σ H s ∧ SK S s₀ s ∧ (∀ b ∈ fp, H b = none) ∧ (Stp ys y H ∨ (Ctn ys y H ∧ ∀ s', SleptR S SR (ys ++ [y]) s s' → kap (.send .none) s'))
def GRx (X : Cx) (S : Option Addr) (SR : List V → Array Value → Prop) (En : List V → Hp → Prop) : GenEnd := fun n s₀ r s =>
  r = .ok .next ∧ ∃ ys σ H, GIx X S SR ys σ H s ∧ SK S s₀ s ∧ En ys H
theorem over_gx {A : Around} {elt : Expr} {gens : List Comprehension} {scope : Scope} {pos : Pos} {it acc : Value} {env : Env} : A.over (.compLoop (.GeneratorExp elt gens scope pos) 0 it acc env) [] = A.deeper env := by
  first
    | rfl
    | (obtain ⟨hd, d, fr, gs, u⟩ := A; simp [Around.over, Around.deeper, marksOver, frameCount, unitsOf, envsOf, guardsOf, pushEnvs, pushGuards, Code.envs, Code.env?, Code.isFrame, Code.guards, Code.isGuard, Code.weight, Code.frames, Code.isCreation, Code.isCaller, Code.cUnits])
theorem over_gx0 {A : Around} {elt : Expr} {gens : List Comprehension} {scope : Scope} {pos : Pos} {it acc : Value} {env : Env} : A.over (.compStart (.GeneratorExp elt gens scope pos) 0 it acc env) [] = A.deeper env := by
  first
    | rfl
    | (obtain ⟨hd, d, fr, gs, u⟩ := A; simp [Around.over, Around.deeper, marksOver, frameCount, unitsOf, envsOf, guardsOf, pushEnvs, pushGuards, Code.envs, Code.env?, Code.isFrame, Code.guards, Code.isGuard, Code.weight, Code.frames, Code.isCreation, Code.isCaller, Code.cUnits])
end GxP

set_option Elab.async false
set_option linter.all false
set_option maxRecDepth 100000
set_option maxHeartbeats 4000000
namespace GxP
open PySem PySem.Spec PyProof.Rows L2 GenW
/-- what a turn is to reach: W i m ys H: at the iterator's place i, measure m, ys is out -/
def TurnX (J : It) (g : TG) (tt : TT) (te : TE) (vs : List Nat) (σ0 : L2.St) (Stp Ctn : List V → V → Hp → Prop) (En : List V → Hp → Prop) (W : Nat → Nat → List V → Hp → Prop) : Prop :=
  ∀ i m ys H, W i m ys H → (J.stop i H ∧ En ys H) ∨ (J.go i H ∧ ∃ Nx : List V → Hp → Prop, (∀ ys' H', Nx ys' H' → ∃ m', m' < m ∧ W (i + 1) m' ys' H') ∧ ∀ x H', J.yld i H x H' → g x σ0 H' fun σ2 H2 => wipe σ2 vs = σ0 ∧ tt σ2 H2 fun b H3 =>
    if b = true then te σ2 H3 fun y H4 => ys.length < sizeLine ∧ (Stp ys y H4 ∨ (Ctn ys y H4 ∧ Nx (ys ++ [y]) H4)) else Nx ys H3)
section
variable {X : Cx} {S : Option Addr} {SR : List V → Array Value → Prop}
theorem gx_stat {pins : List (Addr × Obj)} {σ' : L2.St} {H' : Hp} {s' : Shared} {fp : List Addr} (hex : X.ex = fp) (hp : ∀ p ∈ X.pn ++ pins, p.1 ∉ fp) (I : Inv X pins σ' H' s') (hn : ∀ b ∈ fp, H' b = none) : ∀ b ∈ fp, FpOk X pins H' b := fun b hb =>
  have hb' : b ∈ X.ex := by rw [hex]; exact hb
  ⟨hn b hb, (I.ok.exf b hb').1, I.ok.exfs b hb', .inl hb', fun x c e => (I.ok.exf b hb').2 x c e, fun p hpm z => hp p hpm (by rw [z]; exact hb)⟩
theorem seg_gx {A : Around} {elt tg iter : Expr} {ifs : List Expr} {scope : Scope} {pos : Pos} {it : Addr} {fp : List Addr} {tn : Nat → Heap → Prop} {J : It} {g : TG} {tt : TT} {te : TE} {vs : List Nat} {σ0 : L2.St} {W : Nat → Nat → List V → Hp → Prop} {En : List V → Hp → Prop} {Stp Ctn : List V → V → Hp → Prop}
    (hA : A.deeper X.env = X.A) (hc : X.calm = true) (hxe : X.xe = fun _ _ => False) (hco : X.env.scope.isCoroutine = false) (hex : X.ex = fp) (hpn : ∀ p ∈ X.pn, p.1 ∉ fp) (hAp : ApartO X S) (hw : ∀ σ2 : L2.St, wipe σ2 vs = σ0 → ∀ (i : Nat) v, σ0[i]? = some (some v) → σ2[i]? = some (some v))
    (T : Turn X.prog X.w X.K tg J fp it tn) (pg : PG X tg g) (pt : PTs X ifs tt) (pe : PE X elt te) (turn : TurnX J g tt te vs σ0 Stp Ctn En W) :
    ∀ (m i : Nat) (ys : List V) (s₀ s : Shared) (H : Hp) (n : Nat), n + ys.length = sizeLine → GIx X S SR ys σ0 H s → SK S s₀ s → tn i s.heap → (∀ b ∈ fp, H b = none) → W i m ys H →
      Seg (model X.prog X.w) A (GRx X S SR En) (GYx X S SR fp Stp Ctn) n s₀ (.compLoop (.GeneratorExp elt [⟨tg, iter, ifs, 0⟩] scope pos) 0 (.ref it) .none X.env)
        ((model X.prog X.w).den (.compLoop (.GeneratorExp elt [⟨tg, iter, ifs, 0⟩] scope pos) 0 (.ref it) .none X.env)) [] s := by
  have hov : A.over (.compLoop (.GeneratorExp elt [⟨tg, iter, ifs, 0⟩] scope pos) 0 (.ref it) .none X.env) [] = X.A := over_gx.trans hA
  intro m
  induction m using Nat.strongRecOn with
  | _ m ih =>
  intro i ys s₀ s H n hlen hI hK st hn hW
  have hsp : ∀ {acc : Array Value} {c : Nat}, ∀ p ∈ X.pn ++ spin S acc c, p.1 ∉ fp := fun p hp hb => by
    rcases List.mem_append.mp hp with z | z
    · exact hpn p z hb
    · obtain ⟨e1, _⟩ := spin_mem z
      exact (hAp _ e1).2.2.2.2 (by rw [hex]; exact hb)
  obtain ⟨acc, c, hr, I⟩ := hI
  have keepK : ∀ {pl : List (Addr × Obj)} {σ' : L2.St} {H' : Hp} {s' : Shared}, Inv X (spin S acc c ++ pl) σ' H' s' → SK S s₀ s' := fun {pl σ' H' s'} I' b e => by
    cases e
    have e1 := (I'.pin (b, lstObj acc c) (List.mem_append_right _ (List.mem_append_left _ (List.mem_singleton.mpr rfl)))).1
    have e2 := (I.pin (b, lstObj acc c) (List.mem_append_right _ (List.mem_singleton.mpr rfl))).1
    rw [← hK b rfl, e1, e2]
  show Seg _ A _ _ _ s₀ _ ((compTurn (.GeneratorExp elt [⟨tg, iter, ifs, 0⟩] scope pos) 0 (.ref it) .none X.env).onRaise (leaving X.env)) [] s
  rw [compTurn_gen, Sem.onRaise_eq_wrap]
  refine seg_bind_wrap (wpAny_standAt ?_)
  refine seg_bind_wrap ?_
  rw [hov]
  rcases turn i m ys H hW with ⟨stop, qq⟩ | ⟨go, Nx, hNx, step⟩
  · refine thnF (T.done X rfl rfl rfl hc i _ s _ H (fun _ _ => False) I (gx_stat hex hsp I hn) st stop) fun r s6 ⟨hr6, I6⟩ => ?_
    subst hr6
    exact seg_end (.ok .next) ⟨rfl, ys, σ0, H, ⟨acc, c, hr, I6⟩, keepK (pl := []) (by rw [List.append_nil]; exact I6), qq⟩
  · refine thnF (T.item X rfl rfl rfl hc i _ s _ H (fun _ _ => False) I (gx_stat hex hsp I hn) st go) fun r s6 ⟨u, hr6, h6⟩ => ?_
    subst hr6
    refine seg_bind_wrap ?_
    rw [hov]
    refine thnF h6 fun _ s7 ⟨x, H7, I7, r7, y7, st7, n7⟩ => ?_
    have I7' := I7.pinned (gx_stat hex hsp I7 n7) (T.obj _ _ st7)
    refine seg_bind_wrap ?_
    rw [hov]
    have pgr := pg.run _ s7 _ H7 x u _ I7' r7 (step x H7 y7)
    rw [hxe] at pgr
    refine thnF pgr fun _ s8 ⟨σ8, H8, I8, hw8, q8⟩ => ?_
    refine seg_bind_wrap ?_
    rw [hov]
    have ptr := pt.run _ s8 σ8 H8 _ I8 q8
    rw [hxe] at ptr
    refine thnF ptr fun b s9 ⟨H9, I9, q9⟩ => ?_
    have fin : ∀ {s' : Shared} {H' : Hp}, Inv X (spin S acc c ++ pinsAt fp s7.heap) σ8 H' s' → Inv X (spin S acc c) σ0 H' s' ∧ tn (i + 1) s'.heap ∧ ∀ b ∈ fp, H' b = none := fun {s' H'} I' => by
      have pin' : ∀ b ∈ fp, ∀ o, s7.heap.get? b = some o → s'.heap.get? b = some o ∧ H' b = none := fun b hb o e =>
        let z := I'.pin (b, o) (List.mem_append_right _ (List.mem_append_right _ (mem_pinsAt hb e)))
        ⟨z.1, z.2.1⟩
      have hl : σ0.length = σ8.length := by rw [← hw8, wipe_length]
      refine ⟨(I'.unpinned).weak hl (hw σ8 hw8), T.keep _ _ _ st7 fun b hb o e => (pin' b hb o e).1, fun b hb => ?_⟩
      obtain ⟨o, e, _⟩ := T.obj _ _ st7 b hb
      exact (pin' b hb o e).2
    cases b with
    | false =>
      simp only [Bool.false_eq_true, if_false] at q9 ⊢
      obtain ⟨f1, f2, f3⟩ := fin I9
      obtain ⟨m', hm, w'⟩ := hNx ys H9 q9
      exact seg_again rfl (ih m' hm (i + 1) ys s₀ s9 H9 n hlen ⟨acc, c, hr, f1⟩ (keepK I9) f2 f3 w')
    | true =>
      simp only [if_true] at q9 ⊢
      have hy : ∀ v, yieldOut X.env v = yieldValue v := fun v => by simp only [yieldOut, hco, Bool.false_eq_true, if_false]
      simp only [hy]
      rw [Sem.bind_eq_wrap', Sem.bind_eq_wrap', Sem.wrap_wrap, Sem.wrap_wrap]
      have per := pe.run _ s9 σ8 H9 _ I9 q9
      rw [hxe] at per
      refine seg_wrap ?_
      rw [hov]
      refine thnF per fun z s10 ⟨yv, H10, I10, r10, hz10, nx⟩ => ?_
      obtain ⟨f1, f2, f3⟩ := fin I10
      obtain ⟨n', rfl⟩ : ∃ n', n = n' + 1 := ⟨n - 1, by omega⟩
      refine seg_at (seg_yield rfl rfl rfl ⟨ys, yv, σ0, H10, r10, ⟨acc, c, hr, f1⟩, keepK I10, f3, ?_⟩)
      rcases nx with nx | ⟨hC, nx⟩
      · exact .inl nx
      · obtain ⟨m', hm, w'⟩ := hNx _ H10 nx
        refine .inr ⟨hC, fun s'' zz => ?_⟩
        have tn'' : tn (i + 1) s''.heap := T.keep _ _ _ f2 fun b hb o e => zz.keep b o (fun e' => (hAp b e'.symm).2.2.2.2 (by rw [hex]; exact hb)) e
        exact seg_again rfl (ih m' hm (i + 1) _ s'' s'' H10 n' (by rw [List.length_append, List.length_singleton]; omega) (GIx.woken hAp ⟨acc, c, hr, f1⟩ zz) (fun _ _ => rfl) tn'' f3 w')
end
end GxP

set_option Elab.async false
set_option linter.all false
set_option maxRecDepth 100000
set_option maxHeartbeats 4000000
namespace GxP
open PySem PySem.Spec PyProof.Rows L2 GenW
/-- the context of a generator expression's frame, laid at s -/
def gxCx (X : Cx) (A : Around) (s : Shared) (H : Hp) (cenv : Env) (fp : List Addr) (pn : List (Addr × Obj)) : Cx :=
  { X with A := A.deeper cenv, s_0 := s, H_0 := H, env := cenv, outer := X.stack, stack := cenv :: X.stack, ex := fp, fn := fun _ => false, calm := true, pn := pn, xe := fun _ _ => False }
section
variable {X : Cx} {pins : List (Addr × Obj)} {σ : L2.St} {H : Hp} {s s' : Shared}
theorem gx_start {A : Around} {scope : Scope} {own : List (Str × Nat)} {fp : List Addr} {code : Value} {m0 : Str → Option Value} (I : Inv X pins σ H s) (ok : BlkOk X.N X.env.scope scope own) (hcell : ∀ y ∈ scope.names, y.2 ≠ .cell) (hN : X.N.Nodup)
    (hfp : ∀ b ∈ fp, FpOk X pins H b ∧ b < s.heap.objs.size) (hfr : A.frames = some X.stack) (hd : A.handled = none) (hos : s'.os = s.os) (hb : AllBare s'.gens) (kp : ∀ b o, s.heap.get? b = some o → s'.heap.get? b = some o)
    (hns : s'.heap.Ns s.heap.objs.size m0) :
    Inv (gxCx X A s H (genEnv scope (cloFrom X.env.cells scope.names []) s.heap.objs.size code builtinsNs X.env) fp []) [] (wipe σ (own.map (·.2))) H s' := by
  have hfree : ∀ y ∈ scope.names, y.2 = .free → ∃ c, X.env.cells.lookup y.1 = some c := fun y hy e => by
    rcases ok.free y hy e with k | k
    · exact I.ok.has _ (.inl k)
    · exact I.ok.has _ (.inr k)
  have cm : ∀ {y c}, (cloFrom X.env.cells scope.names []).lookup y = some c → X.env.cells.lookup y = some c ∧ c < s.heap.objs.size := fun {y c} e => by
    rcases cloFrom_mem (PySem.mem_of_lookup e) with hm | ⟨h1, h2⟩
    · cases hm
    · obtain ⟨c1, hc⟩ := hfree _ h1 rfl
      have hc : X.env.cells.lookup y = some c1 := hc
      have e2 : c = c1 := by
        rw [h2, hc] <;> rfl
      rw [e2]
      obtain ⟨w, z⟩ := I.cell _ _ hc
      exact ⟨hc, z.lt⟩
  have look : ∀ {y}, scope.names.lookup y = some .free → ∃ c, (cloFrom X.env.cells scope.names []).lookup y = some c := fun {y} hl => by
    have hy : (y, NameKind.free) ∈ scope.names := PySem.mem_of_lookup hl
    exact mem_lookup (cloFrom_has (cells := X.env.cells) (acc := []) hy)
  generalize hcenv : genEnv scope (cloFrom X.env.cells scope.names []) s.heap.objs.size code builtinsNs X.env = cenv
  have hL : cenv.locals = s.heap.objs.size := by rw [← hcenv]; rfl
  have hcl : cenv.cells = cloFrom X.env.cells scope.names [] := by rw [← hcenv]; rfl
  have hsc : cenv.scope = scope := by rw [← hcenv]; rfl
  have okB : (gxCx X A s H cenv fp []).Ok := by
    refine ⟨I.ok.mod, by show cenv.scope.kind = _; rw [hsc]; exact ok.kind, by show cenv.globals = _; rw [← hcenv]; exact I.ok.glob, by show cenv.builtins = _; rw [← hcenv]; rfl, by show s.heap.objs.size ≤ cenv.locals; rw [hL]; exact Nat.le_refl _,
      fun y z c e1 e2 => ?_, fun y hy => ?_, fun y c z e => ?_, fun _ => hd, Around.frames_deeper hfr, .inr ⟨rfl, by show cenv.frame = some cenv.locals; rw [← hcenv]; rfl⟩, fun b hb => ⟨?_, fun y c e z => ?_⟩, I.bs, Nat.le_trans I.ok.bsz I.sz, fun b o e hb => ?_, fun b hb z => ?_, I.stack, I.stkFree⟩
    · have e1 : cenv.cells.lookup y = some c := e1
      have e2 : cenv.cells.lookup z = some c := e2
      rw [hcl] at e1 e2
      exact I.ok.inj y z c (cm e1).1 (cm e2).1
    · show ∃ c, cenv.cells.lookup y = some c
      have hy : cenv.kindOf y = some .cell ∨ cenv.kindOf y = some .free := hy
      unfold Env.kindOf at hy
      rw [hsc] at hy
      rw [hcl]
      rcases hy with hy | hy
      · exact absurd rfl (hcell _ (PySem.mem_of_lookup hy))
      · exact look hy
    · have z : false = true := z
      cases z
    · show b ≠ cenv.locals
      rw [hL]; exact Nat.ne_of_lt (hfp b hb).2
    · have e : cenv.cells.lookup y = some c := e
      rw [hcl] at e
      exact (hfp b hb).1.2.2.2.2.1 y c (cm e).1 z
    · rcases (hfp b hb).1.2.2.2.1 with z | z
      · exact I.ok.noex b o e z
      · exact absurd (Nat.lt_of_lt_of_le (Heap.lt_size e) (Nat.le_trans I.ok.bsz z)) (Nat.lt_irrefl _)
    · rcases List.mem_cons.mp (I.stkSub b z) with z | z
      · exact (hfp b hb).1.2.1 z
      · exact (hfp b hb).1.2.2.1 z
  refine ⟨okB, hos, hb, Un.kept kp, ⟨m0, by show s'.heap.Ns cenv.locals _; rw [hL]; exact hns, fun i y av e1 e2 e3 => ?_⟩, fun y c e => ?_, ?_, fun y c e => ?_, fun p hp => absurd (show p ∈ ([] : List (Addr × Obj)) ++ [] from hp) (by simp), I.hok.kept kp, by rw [wipe_length]; exact I.len⟩
  · obtain ⟨e2, hne⟩ := wipe_some e2
    have no : ∀ {kk}, scope.names.lookup y = some kk → kk = .local ∨ kk = .cell → False := fun {kk} e hh => by
      rcases ok.own _ (PySem.mem_of_lookup e) hh with e' | e'
      · obtain ⟨p, hp, hpy⟩ := List.mem_map.mp e'
        have e3 := ok.ix p hp
        have : p.1 = y := hpy
        rw [this] at e3
        exact hne (List.mem_map.mpr ⟨p, hp, nodup_ix hN e3 e1⟩)
      · exact e' (List.mem_of_getElem? e1)
    have e3 : Vis cenv.scope y := e3
    rw [hsc] at e3
    rcases e3 with k | k | k
    · exact (no k (.inl rfl)).elim
    · exact (no k (.inr rfl)).elim
    · obtain ⟨m, hn, hl⟩ := I.loc
      have hvis : Vis X.env.scope y := (ok.free _ (PySem.mem_of_lookup k) rfl).elim (fun k => .inr (.inl k)) (fun k => .inr (.inr k))
      obtain ⟨w', r, q⟩ := hl i y av e1 e2 hvis
      obtain ⟨c2, h2⟩ := look k
      have hk : cenv.kindOf y = some .free := by
        unfold Env.kindOf
        rw [hsc]
        exact k
      refine ⟨w', r, .inr ⟨.inr hk, c2, by show cenv.cells.lookup y = _; rw [hcl]; exact h2, ?_⟩⟩
      have c1 := (cm h2).1
      rcases q with ⟨k', _⟩ | ⟨_, c3, e', z⟩
      · have k' : X.env.scope.names.lookup y = some .local := k'
        rcases ok.free _ (PySem.mem_of_lookup k) rfl with k2 | k2 <;> rw [show X.env.scope.names.lookup y = _ from k2] at k' <;> cases k'
      · rw [c1] at e'
        cases e'
        exact z.keeps kp
  · have e : cenv.cells.lookup y = some c := e
    rw [hcl] at e
    obtain ⟨w', z⟩ := I.cell y c (cm e).1
    exact ⟨w', z.keeps kp⟩
  · show H cenv.locals = none
    rw [hL]; exact I.hok.fresh (Nat.le_refl _)
  · have e : cenv.cells.lookup y = some c := e
    rw [hcl] at e
    exact I.freeC y c (cm e).1
/-- pins more in the context, if they hold -/
theorem gx_pinned {A : Around} {cenv : Env} {fp : List Addr} {pn pins' : List (Addr × Obj)} {H' : Hp} (I : Inv (gxCx X A s H cenv fp []) [] σ H' s')
    (h : ∀ p ∈ pn ++ pins', s'.heap.get? p.1 = some p.2 ∧ H' p.1 = none ∧ p.1 ≠ cenv.locals ∧ p.1 ∉ frs X.stack ∧ ∀ v, p.2.data ≠ .cell v) : Inv (gxCx X A s H cenv fp pn) pins' σ H' s' :=
  ⟨⟨I.ok.mod, I.ok.kind, I.ok.glob, I.ok.blt, I.ok.above, I.ok.inj, I.ok.has, I.ok.cab, I.ok.hd, I.ok.frames, I.ok.stk, I.ok.exf, I.ok.bs, I.ok.bsz, I.ok.noex, I.ok.exfs, I.ok.funs, I.ok.frf⟩, I.os, I.bare, I.base, I.loc, I.cell, I.free, I.freeC, h, I.hok, I.len⟩
/-- the loop's start -/
theorem seg_gx0 {A : Around} {elt tg iter : Expr} {ifs : List Expr} {scope : Scope} {pos : Pos} {it : Addr} {fp : List Addr} {tn : Nat → Heap → Prop} {J : It} {n : Nat} {s₀ : Shared} {R : GenEnd} {Y : Protocol}
    (T : Turn X.prog X.w X.K tg J fp it tn) (st : tn 0 s.heap)
    (loop : Seg (model X.prog X.w) A R Y n s₀ (.compLoop (.GeneratorExp elt [⟨tg, iter, ifs, 0⟩] scope pos) 0 (.ref it) .none X.env) ((model X.prog X.w).den (.compLoop (.GeneratorExp elt [⟨tg, iter, ifs, 0⟩] scope pos) 0 (.ref it) .none X.env)) [] s) :
    Seg (model X.prog X.w) A R Y n s₀ (.compStart (.GeneratorExp elt [⟨tg, iter, ifs, 0⟩] scope pos) 0 (.ref it) .none X.env) ((model X.prog X.w).den (.compStart (.GeneratorExp elt [⟨tg, iter, ifs, 0⟩] scope pos) 0 (.ref it) .none X.env)) [] s := by
  show Seg _ A _ _ _ s₀ _ ((compStart (.GeneratorExp elt [⟨tg, iter, ifs, 0⟩] scope pos) 0 (.ref it) .none X.env).onRaise (leaving X.env)) [] s
  unfold compStart
  rw [Sem.onRaise_eq_wrap]
  show Seg _ A _ _ _ s₀ _ ((ask >>= _).wrap _ _ _ _) [] s
  refine seg_bind_wrap (wpAny_askSetting ?_)
  split
  · exact seg_again rfl loop
  · first
      | exact seg_bind_wrap (wpAny_rule (seg_bind_wrap (wpAny_standAt (seg_bind_wrap (T.self _ 0 s _ _ st (seg_again rfl loop))))))
      | (refine seg_bind_wrap (wpAny_rule ?_); show Seg _ A _ _ _ s₀ _ ((standAt iter.pos >>= _).wrap _ _ _ _) [] s; exact seg_bind_wrap (wpAny_standAt (seg_bind_wrap (T.self _ 0 s _ _ st (seg_again rfl loop)))))
end
end GxP

set_option Elab.async false
set_option linter.all false
set_option maxRecDepth 100000
set_option maxHeartbeats 4000000
namespace GxP
open PySem PySem.Spec PyProof.Rows L2 GenW LamX Mi
/-- the scope of a generator expression -/
structure GxS (X : Cx) (scope : Scope) (own : List (Str × Nat)) : Prop where
  blk : BlkOk X.N X.env.scope scope own
  cell : ∀ y ∈ scope.names, y.2 ≠ .cell
  co : scope.isCoroutine = false
  dot : scope.names.lookup (".0" : Str) = some NameKind.local
abbrev gxEnv (X : Cx) (scope : Scope) (L : Addr) (code : Value) : Env := genEnv scope (cloFrom X.env.cells scope.names []) L code builtinsNs X.env
abbrev goObj (g : Nat) (nm qn : Value) : Obj := { cls := .type "generator", data := .fields #[.int g 0, nm, qn] }
/-- a generator expression has been made, its iterator stands ready; a: the generator -/
def GMx (X : Cx) (pins : List (Addr × Obj)) (σ : L2.St) (elt tg iter : Expr) (ifs : List Expr) (scope : Scope) (pos : Pos) (J : It) (H2 : Hp) (a : Addr) (s5 : Shared) : Prop :=
  ∃ (s4 : Shared) (fp : List Addr) (it : Addr) (tn : Nat → Heap → Prop) (code : Value) (g : Nat) (nm qn : Value) (m0 : Str → Option Value), Inv X pins σ H2 s4 ∧ Turn X.prog X.w X.K tg J fp it tn ∧ tn 0 s5.heap ∧ (∀ b ∈ fp, FpOk X pins H2 b ∧ b < s4.heap.objs.size) ∧ s5.os = s4.os ∧ AllBare s5.gens ∧
    (∀ b o, s4.heap.get? b = some o → s5.heap.get? b = some o) ∧ s5.heap.Ns s4.heap.objs.size m0 ∧ s4.heap.objs.size < a ∧ a < s5.heap.objs.size ∧ s5.heap.get? a = some (goObj g nm qn) ∧
    s5.gens[g]? = some (.fresh (.compStart (.GeneratorExp elt [⟨tg, iter, ifs, 0⟩] scope pos) 0 (.ref it) .none (gxEnv X scope s4.heap.objs.size code)))
section
variable {X : Cx} {pins : List (Addr × Obj)} {σ : L2.St} {H H1 : Hp} {s s1 : Shared}
theorem gx_eval {T : List (Addr × Str)} {c P : Addr} {elt tg iter : Expr} {ifs : List Expr} {gpos : Pos} {scope : Scope} {own : List (Str × Nat)} {wi : TI} {k : Nat} {Q' : Value → Shared → Prop} {R : It → Hp → Prop}
    (hr : Room k X.A) (TB : TabB X.base X.mg c P) (hcode : X.env.code = .ref c) (hmT : (P, X.env.qual ++ "<genexpr>") ∈ T) (hu : ∀ p ∈ T, p.1 = P → p.2 = X.env.qual ++ "<genexpr>") (G : GxS X scope own) (hi : PI X tg iter wi)
    (hs : ∀ v, genFold iter X.env v = pure v) (I : Inv X pins σ H s) (h : wi σ H fun J H1 => Tabs T H1 ∧ R J H1)
    (hQ : ∀ J H1 H2 a s5, R J H1 → ExtN H1 H2 → Tabs T H2 → GMx X pins σ elt tg iter ifs scope gpos J H2 a s5 → Q' (.ref a) s5) :
    wpAny (model X.prog X.w) X.A (eval (.GeneratorExp elt [⟨tg, iter, ifs, 0⟩] scope gpos) X.env) Q' X.xe s := by
  have hfree : ∀ y ∈ scope.names, y.2 = .free → ∃ c, X.env.cells.lookup y.1 = some c := fun y hy e => by
    rcases G.blk.free y hy e with k | k
    · exact I.ok.has _ (.inl k)
    · exact I.ok.has _ (.inr k)
  refine wpAny_GeneratorExp_make G.co (closure_ok hfree) G.cell G.dot G.blk.kind (by have := hr.dp; omega) ?_ hs
  refine thn (hi.run pins s σ H _ I h) fun xv s1 hx => thn hx fun itv s2 h2 => ?_
  obtain ⟨it, fp, tn, J, H1, e, I1, W, st, hf, hT, hR⟩ := h2
  subst e
  obtain ⟨ps, hP, ht, hamong⟩ := hT _ hmT
  have hPs : s2.heap.get? P = some { cls := .none, data := .fields ps } := I1.hok P _ hP
  have cd : PySem.W.CodeHd s2.heap c P := TB.code.keeps I1.bk
  refine ⟨I1.nolimit, ?_⟩
  have fpP : ∀ b ∈ fp, b ≠ P := fun b hb z => by
    have := (hf b hb).1
    rw [z, hP] at this
    cases this
  have sz : ∀ b ∈ fp, b < s2.heap.objs.size := fun b hb => by
    obtain ⟨o, e, _⟩ := W.obj _ _ st b hb
    exact Heap.lt_size e
  have cont : ∀ (code : Value) (h3 : Heap) (tk : Nat) (H2 : Hp), Heap.ExtBut P s2.heap h3 → s2.heap.objs.size ≤ h3.objs.size → Inv X pins σ H2 { s2 with heap := h3, toks := tk } → ExtN H1 H2 → Tabs T H2 → (∀ b ∈ fp, H2 b = none) →
      wpAny (model X.prog X.w) X.A (builtinsFor X.env.globals X.env.builtins) (fun bi s₄ =>
        ∀ h', h'.Ns s₄.heap.objs.size (fun y => if y = ".0" then some (Value.ref it) else none) → Heap.SameBut s₄.heap.objs.size (s₄.heap.push { cls := .type "frame", data := .dict #[] }) h' →
          Q' (.ref h'.objs.size) { s₄ with
            gens := s₄.gens.push (.fresh (.compStart (.GeneratorExp elt [⟨tg, iter, ifs, 0⟩] scope gpos) 0 (.ref it) .none (genEnv scope (cloFrom X.env.cells scope.names []) s₄.heap.objs.size code bi X.env))),
            toks := s₄.toks + 1 + 1 + 1,
            heap := h'.push { cls := .type "generator", data := .fields #[.int s₄.gens.size 0, .str "<genexpr>" (s₄.toks + 1), .str (X.env.qual ++ "<genexpr>") (s₄.toks + 1 + 1)] } }) X.xe { s2 with heap := h3, toks := tk } := by
    intro code h3 tk H2 hx hsz I2 hE hT2 hfn
    obtain ⟨bm, ob, e1, e2, e3, e4, e5, e6, e7, e8⟩ := TB.bm
    refine wpAny_builtinsFor (m := X.mg) (by rw [I1.ok.glob]; exact (I1.mod.glob.keeps I1.bk).extBut hx TB.gP) e1 e2 (hx _ _ e4 (I1.bk _ _ e5)) e6 e7 e8 ?_
    intro h' hn' hs'
    have hsz' : h'.objs.size = h3.objs.size + 1 := by rw [hs'.1, Heap.size_push]
    have keep' : ∀ b o, h3.get? b = some o → h'.get? b = some o := fun b o e => hs'.extBut b o (Nat.ne_of_lt (Heap.lt_size e)) (Heap.get?_push_of_some _ e)
    have st3 : tn 0 h3 := W.keep _ _ _ st fun b hb o e => hx b o (fpP b hb) e
    refine hQ J H1 H2 _ _ hR hE hT2 ⟨{ s2 with heap := h3, toks := tk }, fp, it, tn, code, s2.gens.size, _, _, _, I2, W, W.keep _ _ _ st3 fun b hb o e => Heap.get?_push_of_some _ (keep' b o e), fun b hb => ⟨⟨hfn b hb, (hf b hb).2⟩, Nat.lt_of_lt_of_le (sz b hb) hsz⟩, rfl, I1.bare.push rfl,
      fun b o e => Heap.get?_push_of_some _ (keep' b o e), hn'.push _, ?_, ?_, Heap.get?_push_size _ rfl, Array.getElem?_push_size ..⟩
    · show h3.objs.size < h'.objs.size
      omega
    · show h'.objs.size < (h'.push _).objs.size
      rw [Heap.size_push]
      exact Nat.lt_succ_self _
  cases hfc : codeAmong gpos ps.toList with
  | none =>
    refine wpAny_genexprCodeX hcode (cd.code hPs ht) (cd.tab hPs) hfc fun c' h' tk hx hge hlt hco' hrec htab' _ => ?_
    obtain ⟨c2, oc, vs2, t2, e2, hoc, hd, hv⟩ := hrec
    cases e2
    have nC : H1 c' = none := I1.hok.fresh hge
    have J := inv_table (t' := tk) (more := #[rawInt gpos.line, rawInt gpos.col, .ref c']) (h' := h') (q := X.env.qual ++ "<genexpr>") I1 hP hx htab'.2 hge ⟨oc, vs2, t2, hoc, hd, hv⟩
    generalize hH1 : upd (upd H1 P (.tbl (ps ++ #[rawInt gpos.line, rawInt gpos.col, .ref c']))) c' (CodeO c' (X.env.qual ++ "<genexpr>")) = H2 at J
    have hE : ExtN H1 H2 := fun b o e n => by
      rw [← hH1, upd_ne (ne_of_none e nC), upd_ne (fun z => n ps (Option.some.inj (e.symm.trans (by rw [z]; exact hP))))]
      exact e
    have eL : (ps ++ #[rawInt gpos.line, rawInt gpos.col, .ref c']).toList = ps.toList ++ [rawInt gpos.line, rawInt gpos.col, .ref c'] := by simp
    have hc1 : H2 c' = some (CodeO c' (X.env.qual ++ "<genexpr>")) := by rw [← hH1, upd_same]
    refine cont _ h' tk H2 hx (Nat.le_trans hge (Nat.le_of_lt hlt)) J hE (fun p hp => ?_) fun b hb => ?_
    · by_cases hb : p.1 = P
      · rw [hu p hp hb, hb]
        refine ⟨_, by rw [← hH1, upd_ne (ne_of_none hP nC), upd_same], by rw [eL]; exact PySem.TriplesOk_snoc _ _ _ _ ht, fun p' cv hcv => ?_⟩
        rw [eL] at hcv
        rcases among_app _ ht hcv with z | z
        · obtain ⟨c0, e1, e2⟩ := hamong p' cv z
          exact ⟨c0, e1, hE _ _ e2 codeO_ne⟩
        · exact ⟨c', z, hc1⟩
      · obtain ⟨ps', a1, a2, a3⟩ := hT p hp
        refine ⟨ps', by rw [← hH1, upd_ne (ne_of_none a1 nC), upd_ne hb]; exact a1, a2, fun p' cv hcv => ?_⟩
        obtain ⟨c0, e1, e2⟩ := a3 p' cv hcv
        exact ⟨c0, e1, hE _ _ e2 codeO_ne⟩
    · rw [← hH1, upd_ne (Nat.ne_of_lt (Nat.lt_of_lt_of_le (sz b hb) hge)), upd_ne (fpP b hb)]
      exact (hf b hb).1
  | some cv =>
    refine wpAny_genexprCode_hit hcode (cd.code hPs ht) hfc ?_
    exact cont cv s2.heap s2.toks H1 (Heap.ExtBut.refl _ _) (Nat.le_refl _) I1 (ExtN.refl _) hT fun b hb => (hf b hb).1
end
end GxP

set_option Elab.async false
set_option linter.all false
set_option maxRecDepth 100000
set_option maxHeartbeats 4000000
namespace GxP
open PySem PySem.Spec PyProof.Rows L2 GenW LamX Mi
/-- the consumer's list stands for ys, untracked -/
def SAt (S : Option Addr) (SR : List V → Array Value → Prop) (ys : List V) (H : Hp) (s : Shared) : Prop := ∀ b, S = some b → H b = none ∧ ∃ acc c, s.heap.get? b = some (lstObj acc c) ∧ SR ys acc
def FX (X : Cx) (pins : List (Addr × Obj)) (σ : L2.St) (S : Option Addr) (SR : List V → Array Value → Prop) (a : Addr) (go : Obj) (En : List V → Hp → Prop) (s₀ s1 : Shared) : Prop :=
  ∃ ys H, Inv X pins σ H s1 ∧ SK S s₀ s1 ∧ s1.heap.get? a = some go ∧ SAt S SR ys H s1 ∧ En ys H
def RX (X : Cx) (pins : List (Addr × Obj)) (σ : L2.St) (S : Option Addr) (SR : List V → Array Value → Prop) (a : Addr) (go : Obj) (En : List V → Hp → Prop) : GenEnd := fun n s₀ r s1 =>
  ((r = .ok (.ret .none) ∨ r = .ok .next) ∧ FX X pins σ S SR a go En s₀ s1) ∨ ∃ e, r = .error e ∧ False
def YX (X : Cx) (pins : List (Addr × Obj)) (σ : L2.St) (S : Option Addr) (SR : List V → Array Value → Prop) (a : Addr) (go : Obj) (Stp Ctn : List V → V → Hp → Prop) : Protocol := fun n s₀ v s1 kap =>
  ∃ ys y H, RelV y v ∧ Inv X pins σ H s1 ∧ SK S s₀ s1 ∧ s1.heap.get? a = some go ∧ SAt S SR ys H s1 ∧ (Stp ys y H ∨ (Ctn ys y H ∧ ∀ s'', SleptR S SR (ys ++ [y]) s1 s'' → kap (.send .none) s''))
section
variable {X : Cx} {pins : List (Addr × Obj)} {σ : L2.St} {H2 : Hp} {s5 : Shared}
/-- the parts of a generator expression, in its frame -/
def GxParts (X : Cx) (k : Nat) (scope : Scope) (tg elt : Expr) (ifs : List Expr) (g : TG) (tt : TT) (te : TE) : Prop :=
  ∀ (A : Around) (s : Shared) (H : Hp) (L : Addr) (code : Value) (fp : List Addr) (pn : List (Addr × Obj)), Room k (A.deeper (gxEnv X scope L code)) →
    PG (gxCx X A s H (gxEnv X scope L code) fp pn) tg g ∧ PTs (gxCx X A s H (gxEnv X scope L code) fp pn) ifs tt ∧ PE (gxCx X A s H (gxEnv X scope L code) fp pn) elt te
theorem gx_wake {k : Nat} {elt tg iter : Expr} {ifs : List Expr} {scope : Scope} {own : List (Str × Nat)} {pos : Pos} {J : It} {a : Addr} {g : TG} {tt : TT} {te : TE} (M : GMx X pins σ elt tg iter ifs scope pos J H2 a s5) (G : GxS X scope own) (hN : X.N.Nodup)
    (hp : GxParts X k scope tg elt ifs g tt te) :
    ∃ (gn : Nat) (nm qn : Value) (c : Code), s5.heap.get? a = some (goObj gn nm qn) ∧ s5.gens[gn]? = some (.fresh c) ∧ AllBare s5.gens ∧ s5.heap.NoLimit ∧ a < s5.heap.objs.size ∧
      ∀ (A : Around) (S : Option Addr) (SR : List V → Array Value → Prop) (Stp Ctn : List V → V → Hp → Prop) (En : List V → Hp → Prop) (W : Nat → Nat → List V → Hp → Prop) (m : Nat) (s2 : Shared), A.frames = some X.stack → A.handled = none → Room (k + 1) A →
        (∀ b, S = some b → s5.heap.objs.size ≤ b) → (∀ b o, s5.heap.get? b = some o → s2.heap.get? b = some o) → (∀ b, S = some b → ∃ acc c, s2.heap.get? b = some (lstObj acc c) ∧ SR [] acc) → s2.os = s5.os → AllBare s2.gens →
        TurnX J g tt te (own.map (·.2)) (wipe σ (own.map (·.2))) Stp Ctn En W → W 0 m [] H2 →
        Seg (model X.prog X.w) A (RX X pins σ S SR a (goObj gn nm qn) En) (YX X pins σ S SR a (goObj gn nm qn) Stp Ctn) sizeLine s2 c ((model X.prog X.w).den c) [] s2 := by
  obtain ⟨s4, fp, it, tn, code, gn, nm, qn, m0, I4, T, st5, hf, os5, b5, kp5, ns5, lta, alt, ga, hg⟩ := M
  refine ⟨gn, nm, qn, _, ga, hg, b5, I4.nolimit.keeps kp5, alt, ?_⟩
  intro A S SR Stp Ctn En W m s2 hfr hd hr hS kp hSo os2 b2 turn w0
  have kp2 : ∀ b o, s4.heap.get? b = some o → s2.heap.get? b = some o := fun b o e => kp b o (kp5 b o e)
  have sub4 : ∀ {b : Addr}, s4.heap.objs.size < b → H2 b = none ∧ b ≠ s4.heap.objs.size ∧ b ∉ frs X.stack ∧ b ∉ fp ∧ (∀ x c, (cloFrom X.env.cells scope.names []).lookup x = some c → c ≠ b) := fun {b} hb => by
    refine ⟨I4.hok.fresh (Nat.le_of_lt hb), Nat.ne_of_gt hb, fun z => ?_, fun z => ?_, fun x c e z => ?_⟩
    · have hfun := I4.stack.mem z
      obtain ⟨_, o, ho, _⟩ := hfun
      exact absurd (Nat.lt_trans (Heap.lt_size ho) hb) (Nat.lt_irrefl _)
    · exact absurd (Nat.lt_trans (hf b z).2 hb) (Nat.lt_irrefl _)
    · rcases cloFrom_mem (PySem.mem_of_lookup e) with hm | ⟨h1, h2⟩
      · cases hm
      · have hfree : ∃ c, X.env.cells.lookup x = some c := by
          rcases G.blk.free _ h1 rfl with k | k
          · exact I4.ok.has _ (.inl k)
          · exact I4.ok.has _ (.inr k)
        obtain ⟨c1, hc⟩ := hfree
        have e2 : c = c1 := by
          rw [h2, hc] <;> rfl
        obtain ⟨w, q⟩ := I4.cell _ _ hc
        have := q.lt
        rw [← e2, z] at this
        exact absurd (Nat.lt_trans this hb) (Nat.lt_irrefl _)
  have ns2 : s2.heap.Ns s4.heap.objs.size m0 := ns5.keeps kp
  have I0 := gx_start (A := A) (code := code) (s' := s2) I4 G.blk G.cell hN hf hfr hd (os2.trans os5) b2 kp2 ns2
  have ga2 : s2.heap.get? a = some (goObj gn nm qn) := kp a _ ga
  have ya := sub4 lta
  have yS : ∀ b, S = some b → s4.heap.objs.size < b := fun b e => Nat.lt_trans lta (Nat.lt_of_lt_of_le alt (hS b e))
  have st2 : tn 0 s2.heap := T.keep _ _ _ st5 fun b _ o e => kp b o e
  -- what holds in the frame holds for the caller
  have out : ∀ {ys : List V} {σ' : L2.St} {H' : Hp} {s1 : Shared}, GIx (gxCx X A s4 H2 (gxEnv X scope s4.heap.objs.size code) fp [(a, goObj gn nm qn)]) S SR ys σ' H' s1 → Inv X pins σ H' s1 ∧ s1.heap.get? a = some (goObj gn nm qn) ∧ SAt S SR ys H' s1 := fun {ys σ' H' s1} hI => by
    obtain ⟨acc, c, hsr, J1⟩ := hI
    refine ⟨I4.call' (ch := fp) J1.os J1.base J1.hok J1.bare fun b hb => ⟨(hf b hb).1.2.2.2.1, (hf b hb).1.2.1, (hf b hb).1.2.2.2.2.1, (hf b hb).1.2.2.2.2.2⟩, (J1.pin (a, goObj gn nm qn) (List.mem_append_left _ (List.mem_singleton.mpr rfl))).1, fun b e => ?_⟩
    cases e
    obtain ⟨q1, q2, _⟩ := J1.pin (b, lstObj acc c) (List.mem_append_right _ (List.mem_singleton.mpr rfl))
    exact ⟨q2, acc, c, q1, hsr b rfl⟩
  have hG : GIx (gxCx X A s4 H2 (gxEnv X scope s4.heap.objs.size code) fp [(a, goObj gn nm qn)]) S SR [] (wipe σ (own.map (·.2))) H2 s2 := by
    cases S with
    | none =>
      refine ⟨#[], 0, (fun b e => nomatch e), gx_pinned I0 fun p hp => ?_⟩
      rcases List.mem_append.mp hp with z | z
      · rw [List.mem_singleton.mp z]
        exact ⟨ga2, ya.1, ya.2.1, ya.2.2.1, fun v q => by cases q⟩
      · cases z
    | some b =>
      obtain ⟨acc, c, eS, hsr⟩ := hSo b rfl
      have yb := sub4 (yS b rfl)
      refine ⟨acc, c, (fun _ _ => hsr), gx_pinned I0 fun p hp => ?_⟩
      rcases List.mem_append.mp hp with z | z
      · rw [List.mem_singleton.mp z]
        exact ⟨ga2, ya.1, ya.2.1, ya.2.2.1, fun v q => by cases q⟩
      · rw [List.mem_singleton.mp z]
        exact ⟨eS, yb.1, yb.2.1, yb.2.2.1, fun v q => by cases q⟩
  have hAp : ApartO (gxCx X A s4 H2 (gxEnv X scope s4.heap.objs.size code) fp [(a, goObj gn nm qn)]) S := fun b e => by
    have yb := sub4 (yS b e)
    refine ⟨Nat.le_of_lt (yS b e), yb.2.1, yb.2.2.2.2, fun p hp => ?_, yb.2.2.2.1⟩
    rw [List.mem_singleton.mp hp]
    exact Nat.ne_of_lt (Nat.lt_of_lt_of_le alt (hS b e))
  obtain ⟨pg, pt, pe⟩ := hp A s4 H2 s4.heap.objs.size code fp [(a, goObj gn nm qn)] (hr.deeper _)
  refine seg_imp (R := GRx (gxCx X A s4 H2 (gxEnv X scope s4.heap.objs.size code) fp [(a, goObj gn nm qn)]) S SR En) (Y := GYx (gxCx X A s4 H2 (gxEnv X scope s4.heap.objs.size code) fp [(a, goObj gn nm qn)]) S SR fp Stp Ctn) (fun n s₀ r s1 hR => ?_) (fun n s₀ v s1 kap kap' hkk hY => ?_) sizeLine ?_
  · obtain ⟨rfl, ys, σ', H', hI, hK, hE⟩ := hR
    obtain ⟨o1, o2, o3⟩ := out hI
    exact .inl ⟨.inr rfl, ys, H', o1, hK, o2, o3, hE⟩
  · obtain ⟨ys, y, σ', H', rv, hI, hK, hn, hSC⟩ := hY
    obtain ⟨o1, o2, o3⟩ := out hI
    refine ⟨ys, y, H', rv, o1, hK, o2, o3, ?_⟩
    rcases hSC with q | ⟨q1, q2⟩
    · exact .inl q
    · exact .inr ⟨q1, fun s'' z => hkk _ _ (q2 s'' z)⟩
  · refine seg_gx0 (X := gxCx X A s4 H2 (gxEnv X scope s4.heap.objs.size code) fp [(a, goObj gn nm qn)]) T st2 ?_
    refine seg_gx (X := gxCx X A s4 H2 (gxEnv X scope s4.heap.objs.size code) fp [(a, goObj gn nm qn)]) rfl rfl rfl G.co rfl (fun p hp => ?_) hAp (fun σ2 e i v q => ?_) T pg pt pe turn m 0 [] s2 s2 H2 sizeLine rfl hG (fun _ _ => rfl) st2 (fun b hb => (hf b hb).1.1) w0
    · rw [List.mem_singleton.mp hp]
      exact ya.2.2.2.1
    · rw [← e] at q
      exact (wipe_some q).1
end
end GxP

set_option Elab.async false
set_option linter.all false
set_option maxRecDepth 100000
set_option maxHeartbeats 4000000
namespace GxP
open PySem PySem.Spec PyProof.Rows L2 GenW LamX Mi
section
variable {X : Cx} {pins : List (Addr × Obj)} {σ : L2.St}
/-- the generator waits for its next wake -/
def GSt (X : Cx) (pins : List (Addr × Obj)) (σ : L2.St) (S : Option Addr) (SR : List V → Array Value → Prop) (Stp Ctn : List V → V → Hp → Prop) (En : List V → Hp → Prop) (a : Addr) (gn : Nat) (nm qn : Value) (A : Around) (n : Nat) (s : Shared) : Prop :=
  s.heap.get? a = some (goObj gn nm qn) ∧ s.heap.NoLimit ∧ AllBare s.gens ∧ ∃ gs, s.gens[gn]? = some gs ∧ gs.Goes (model X.prog X.w) A.in1 (RX X pins σ S SR a (goObj gn nm qn) En) (YX X pins σ S SR a (goObj gn nm qn) Stp Ctn) n (.send .none) (s.setGen gn .running)
theorem inv_setGen {H : Hp} {s : Shared} {g : Nat} {x : GenState} (I : Inv X pins σ H s) (hx : x.bare = true) : Inv X pins σ H (s.setGen g x) := inv_gens (d' := s.drawn) I (allBare_setGen I.bare hx)
theorem next_gx {S : Option Addr} {SR : List V → Array Value → Prop} {Stp Ctn : List V → V → Hp → Prop} {En : List V → Hp → Prop} {a : Addr} {gn : Nat} {nm qn : Value} {A : Around} {n : Nat} {s : Shared} {Q : Option Value → Shared → Prop} {E : Value → Shared → Prop} (hh : A.handled = none) (hd : A.depth < recursionLimit)
    (G : GSt X pins σ S SR Stp Ctn En a gn nm qn A n s)
    (hY : ∀ ys y H v s1, RelV y v → Inv X pins σ H s1 → SK S s s1 → SAt S SR ys H s1 → (∀ b, S = some b → b ≠ a) →
      (Stp ys y H ∨ (Ctn ys y H ∧ ∀ s2, s2.gens = s1.gens → SleptR S SR (ys ++ [y]) s1 s2 → s2.heap.NoLimit → ∃ n', n = n' + 1 ∧ GSt X pins σ S SR Stp Ctn En a gn nm qn A n' s2)) → Q (some v) s1)
    (hE : ∀ ys H s1, Inv X pins σ H s1 → SK S s s1 → SAt S SR ys H s1 → En ys H → Q none s1) : wpAny (model X.prog X.w) A (pyNext (.ref a)) Q E s := by
  obtain ⟨ga, lim, hb, gs, hgs, hgo⟩ := G
  have hgl : gn < s.gens.size := (Array.getElem?_eq_some_iff.mp hgs).1
  have isg : s.heap.IsGen a gn := ⟨_, nm, qn, ga, rfl, rfl, rfl⟩
  refine wpAny_gsz (n := gn + 1) hgl (next_genG (A := A) (F := fun n s₀ s1 => FX X pins σ S SR a (goObj gn nm qn) En s₀ s1) (Er := fun _ _ => False) hh lim hd isg hgs hgo (fun v s₁ gs' hbare hv => ?_) (fun s₁ hp h' hk => ?_) fun e s₁ he => he.elim)
  · intro hsz
    obtain ⟨ys, y, H, rv, I, hK, ga1, hS, hSC⟩ := hv
    have hsz1 : gn < s₁.gens.size := by
      have q : (s₁.setGen gn gs').gens.size = s₁.gens.size := setGen_size _ _ _
      have hsz' : gn + 1 ≤ (s₁.setGen gn gs').gens.size := hsz
      omega
    have hne : ∀ b, S = some b → b ≠ a := fun b e z => by
      obtain ⟨_, acc, c, q, _⟩ := hS b e
      rw [z, ga1] at q
      have e1 := congrArg Obj.cls (Option.some.inj q)
      have e2 : ("generator" : String) = "list" := Value.type.inj e1
      exact absurd e2 (by decide)
    refine hY ys y H v _ rv (inv_setGen I hbare) hK hS hne ?_
    rcases hSC with q | ⟨q, hk⟩
    · exact .inl q
    · refine .inr ⟨q, fun s2 hg2 sl lim2 => ?_⟩
      have ga2 : s2.heap.get? a = some (goObj gn nm qn) := sl.keep a _ (fun e => hne a e.symm rfl) ga1
      have b2 : AllBare s2.gens := sl.bare
      have sl' : SleptR S SR (ys ++ [y]) s₁ (s2.setGen gn .running) := ⟨sl.os, allBare_setGen b2 rfl, sl.keep, sl.own⟩
      have hk' := hk _ sl'
      cases n with
      | zero => exact hk'.elim
      | succ n' => exact ⟨n', rfl, ga2, lim2, b2, gs', by rw [hg2]; exact setGen_at hsz1, hk'⟩
  · intro hsz
    obtain ⟨ys, H, I, hK, ga1, hS, hEn⟩ := hp
    have J : Inv X pins σ H { s₁.setGen gn .finished with heap := h' } := Inv.kept (t' := s₁.toks) (h' := h') (inv_setGen (g := gn) (x := .finished) I rfl) hk
    exact hE ys H _ J (fun b e => by
      obtain ⟨_, acc, c, q, _⟩ := hS b e
      have q0 : s₁.heap.get? b = s.heap.get? b := hK b e
      show h'.get? b = s.heap.get? b
      rw [← q0, q]
      exact hk _ _ q) (fun b e => by
      obtain ⟨q0, acc, c, q, r⟩ := hS b e
      exact ⟨q0, acc, c, hk _ _ q, r⟩) hEn
/-- any.loop, all.loop: the items are truths; the loop ends at the first one that is bb -/
theorem any_gx {R : Result → Shared → Prop} {QT QF : Hp → Prop} {a : Addr} {gn : Nat} {nm qn : Value} {A : Around} (hh : A.handled = none) (hd : A.depth < recursionLimit)
    (hT : ∀ H s', Inv X pins σ H s' → QT H → R (.ok (.ret (.bool true))) s') (hF : ∀ H s', Inv X pins σ H s' → QF H → R (.ok (.ret (.bool false))) s') :
    ∀ (n : Nat) (s : Shared), GSt X pins σ none (fun _ _ => True) (fun _ y H => y = .bl true ∧ QT H) (fun _ y H => y = .bl false) (fun _ H => QF H) a gn nm qn A.in1 n s → codeAny (model X.prog X.w) A (.builtin "any.loop" ⟨[.ref a], []⟩) R s := by
  intro n
  induction n with
  | zero =>
    intro s G
    refine codeAny_builtin F.entry_any_loop ?_
    rw [Around.under_plainId F.plain_any_loop _]
    show wpAny _ A.in1 (pyNext (.ref a) >>= _) _ _ s
    refine wpAny_bind (next_gx (A := A.in1) hh hd G (fun ys y H v s1 rv I hK hS hne hSC => ?_) fun ys H s1 I hK hS hEn => ?_)
    · rcases hSC with ⟨rfl, q⟩ | ⟨rfl, hk⟩
      · cases (show v = Value.bool true from rv)
        refine wpAny_bind (wpAny_holding (wpAny_truthy_bool ?_))
        refine wpAny_bind (wpAny_letGo ?_)
        simp only [if_true]
        exact wpAny_bind (wpAny_rule (wpAny_pure (hT H _ I q)))
      · obtain ⟨n', e, _⟩ := hk s1 rfl ⟨rfl, I.bare, fun b o _ e => e, fun b e => nomatch e⟩ I.nolimit
        cases e
    · exact wpAny_bind (wpAny_rule (wpAny_pure (hF H _ I hEn)))
  | succ n ih =>
    intro s G
    refine codeAny_builtin F.entry_any_loop ?_
    rw [Around.under_plainId F.plain_any_loop _]
    show wpAny _ A.in1 (pyNext (.ref a) >>= _) _ _ s
    refine wpAny_bind (next_gx (A := A.in1) hh hd G (fun ys y H v s1 rv I hK hS hne hSC => ?_) fun ys H s1 I hK hS hEn => ?_)
    · rcases hSC with ⟨rfl, q⟩ | ⟨rfl, hk⟩
      · cases (show v = Value.bool true from rv)
        refine wpAny_bind (wpAny_holding (wpAny_truthy_bool ?_))
        refine wpAny_bind (wpAny_letGo ?_)
        simp only [if_true]
        exact wpAny_bind (wpAny_rule (wpAny_pure (hT H _ I q)))
      · cases (show v = Value.bool false from rv)
        obtain ⟨n', e, G'⟩ := hk s1 rfl ⟨rfl, I.bare, fun b o _ e => e, fun b e => nomatch e⟩ I.nolimit
        cases e
        refine wpAny_bind (wpAny_holding (wpAny_truthy_bool ?_))
        refine wpAny_bind (wpAny_letGo ?_)
        simp only [Bool.false_eq_true, if_false]
        exact wpAny_pure ⟨plainId_quiet F.plain_any_loop _, ih s1 G'⟩
    · exact wpAny_bind (wpAny_rule (wpAny_pure (hF H _ I hEn)))
/-- all.loop -/
theorem all_gx {R : Result → Shared → Prop} {QT QF : Hp → Prop} {a : Addr} {gn : Nat} {nm qn : Value} {A : Around} (hh : A.handled = none) (hd : A.depth < recursionLimit)
    (hT : ∀ H s', Inv X pins σ H s' → QT H → R (.ok (.ret (.bool true))) s') (hF : ∀ H s', Inv X pins σ H s' → QF H → R (.ok (.ret (.bool false))) s') :
    ∀ (n : Nat) (s : Shared), GSt X pins σ none (fun _ _ => True) (fun _ y H => y = .bl false ∧ QF H) (fun _ y H => y = .bl true) (fun _ H => QT H) a gn nm qn A.in1 n s → codeAny (model X.prog X.w) A (.builtin "all.loop" ⟨[.ref a], []⟩) R s := by
  intro n
  induction n with
  | zero =>
    intro s G
    refine codeAny_builtin F.entry_all_loop ?_
    rw [Around.under_plainId F.plain_all_loop _]
    show wpAny _ A.in1 (pyNext (.ref a) >>= _) _ _ s
    refine wpAny_bind (next_gx (A := A.in1) hh hd G (fun ys y H v s1 rv I hK hS hne hSC => ?_) fun ys H s1 I hK hS hEn => ?_)
    · rcases hSC with ⟨rfl, q⟩ | ⟨rfl, hk⟩
      · cases (show v = Value.bool false from rv)
        refine wpAny_bind (wpAny_holding (wpAny_truthy_bool ?_))
        refine wpAny_bind (wpAny_letGo ?_)
        simp only [Bool.false_eq_true, if_false]
        exact wpAny_bind (wpAny_rule (wpAny_pure (hF H _ I q)))
      · obtain ⟨n', e, _⟩ := hk s1 rfl ⟨rfl, I.bare, fun b o _ e => e, fun b e => nomatch e⟩ I.nolimit
        cases e
    · exact wpAny_bind (wpAny_rule (wpAny_pure (hT H _ I hEn)))
  | succ n ih =>
    intro s G
    refine codeAny_builtin F.entry_all_loop ?_
    rw [Around.under_plainId F.plain_all_loop _]
    show wpAny _ A.in1 (pyNext (.ref a) >>= _) _ _ s
    refine wpAny_bind (next_gx (A := A.in1) hh hd G (fun ys y H v s1 rv I hK hS hne hSC => ?_) fun ys H s1 I hK hS hEn => ?_)
    · rcases hSC with ⟨rfl, q⟩ | ⟨rfl, hk⟩
      · cases (show v = Value.bool false from rv)
        refine wpAny_bind (wpAny_holding (wpAny_truthy_bool ?_))
        refine wpAny_bind (wpAny_letGo ?_)
        simp only [Bool.false_eq_true, if_false]
        exact wpAny_bind (wpAny_rule (wpAny_pure (hF H _ I q)))
      · cases (show v = Value.bool true from rv)
        obtain ⟨n', e, G'⟩ := hk s1 rfl ⟨rfl, I.bare, fun b o _ e => e, fun b e => nomatch e⟩ I.nolimit
        cases e
        refine wpAny_bind (wpAny_holding (wpAny_truthy_bool ?_))
        refine wpAny_bind (wpAny_letGo ?_)
        simp only [if_true]
        exact wpAny_pure ⟨plainId_quiet F.plain_all_loop _, ih s1 G'⟩
    · exact wpAny_bind (wpAny_rule (wpAny_pure (hT H _ I hEn)))
end
end GxP

set_option Elab.async false
set_option linter.all false
set_option maxRecDepth 100000
set_option maxHeartbeats 4000000
namespace GxP
open PySem PySem.Spec PyProof.Rows L2 GenW LamX Mi
/-- a generator expression told to its consumer -/
def tGx (T : List (Addr × Str)) (wi : TI) (g : TG) (tt : TT) (te : TE) (vs : List Nat) (Stp Ctn : List V → V → Hp → Prop) (En : List V → Hp → Prop) : L2.St → Hp → Prop := fun σ H =>
  wi σ H fun J H1 => Tabs T H1 ∧ ∀ H2, ExtN H1 H2 → Tabs T H2 → ∃ W m, W 0 m [] H2 ∧ TurnX J g tt te vs (wipe σ vs) Stp Ctn En W
def tAnyGx (T : List (Addr × Str)) (wi : TI) (g : TG) (tt : TT) (te : TE) (vs : List Nat) : TE := fun σ H Q => tGx T wi g tt te vs (fun _ y H => y = .bl true ∧ Q (.bl true) H) (fun _ y _ => y = .bl false) (fun _ H => Q (.bl false) H) σ H
def tAllGx (T : List (Addr × Str)) (wi : TI) (g : TG) (tt : TT) (te : TE) (vs : List Nat) : TE := fun σ H Q => tGx T wi g tt te vs (fun _ y H => y = .bl false ∧ Q (.bl false) H) (fun _ y _ => y = .bl true) (fun _ H => Q (.bl true) H) σ H
section
variable {X : Cx} {pins : List (Addr × Obj)} {σ : L2.St} {T : List (Addr × Str)} {c P : Addr} {elt tg iter : Expr} {ifs : List Expr} {gpos p pos : Pos} {scope : Scope} {own : List (Str × Nat)} {wi : TI} {g : TG} {tt : TT} {te : TE} {k : Nat}
theorem gx_gst {S : Option Addr} {SR : List V → Array Value → Prop} {Stp Ctn : List V → V → Hp → Prop} {En : List V → Hp → Prop} {J : It} {H2 : Hp} {a : Addr} {s5 : Shared} {W : Nat → Nat → List V → Hp → Prop} {m : Nat} {A : Around} (M : GMx X pins σ elt tg iter ifs scope gpos J H2 a s5) (G : GxS X scope own) (hN : X.N.Nodup)
    (hp : GxParts X k scope tg elt ifs g tt te) (hfr : A.frames = some X.stack) (hd : A.handled = none) (hr : Room (k + 1) A.in1) (turn : TurnX J g tt te (own.map (·.2)) (wipe σ (own.map (·.2))) Stp Ctn En W) (w0 : W 0 m [] H2) :
    ∃ gn nm qn, s5.heap.get? a = some (goObj gn nm qn) ∧ s5.heap.NoLimit ∧ AllBare s5.gens ∧ a < s5.heap.objs.size ∧ ∀ s2, (∀ b, S = some b → s5.heap.objs.size ≤ b) → (∀ b o, s5.heap.get? b = some o → s2.heap.get? b = some o) → (∀ b, S = some b → ∃ acc c, s2.heap.get? b = some (lstObj acc c) ∧ SR [] acc) → s2.os = s5.os → s2.gens = s5.gens →
      GSt X pins σ S SR Stp Ctn En a gn nm qn A sizeLine s2 := by
  obtain ⟨gn, nm, qn, cc, ga, hg, b5, lim, alt, wake⟩ := gx_wake M G hN hp
  refine ⟨gn, nm, qn, ga, lim, b5, alt, fun s2 h1 h2 h3 h4 h5 => ⟨h2 _ _ ga, lim.keeps h2, by rw [h5]; exact b5, .fresh cc, by rw [h5]; exact hg, ?_⟩⟩
  refine ⟨rfl, ?_⟩
  exact wake A.in1 S SR Stp Ctn En W m _ hfr hd hr h1 h2 h3 h4 (allBare_setGen (by rw [h5]; exact b5) rfl) turn w0
theorem pe_anyGx (hr : Room (k + 3) X.A) (TB : TabB X.base X.mg c P) (hcode : X.env.code = .ref c) (hmT : (P, X.env.qual ++ "<genexpr>") ∈ T) (hu : ∀ p ∈ T, p.1 = P → p.2 = X.env.qual ++ "<genexpr>") (G : GxS X scope own) (hN : X.N.Nodup) (hi : PI X tg iter wi)
    (hp : GxParts X k scope tg elt ifs g tt te) (hg : Gl X "any") (hm : X.mg "any" = none) (hs : ∀ v, genFold iter X.env v = pure v)
    (he : starEach [.GeneratorExp elt [⟨tg, iter, ifs, 0⟩] scope gpos] X.env = (false, eval (.GeneratorExp elt [⟨tg, iter, ifs, 0⟩] scope gpos) X.env) :: starEach [] X.env := by rfl) :
    PE X (.Call (.Name "any" p) [.GeneratorExp elt [⟨tg, iter, ifs, 0⟩] scope gpos] [] pos) (tAnyGx T wi g tt te (own.map (·.2))) := by
  refine ⟨fun pins s σ H Q I h => ?_⟩
  refine wpAny_Call_Name_kw (ld_blt I hg hm boot_any ?_)
  refine PyProof.Rows.callWith_builtin1 ?_ he (by rfl)
  rw [he]
  show wpAny _ _ (spliced ((false, eval (.GeneratorExp elt [⟨tg, iter, ifs, 0⟩] scope gpos) X.env) :: backTo pos (starEach [] X.env))) _ _ s
  refine Calls.spliced_cons (gx_eval (T := T) hr TB hcode hmT hu G hi hs I h fun J H1 H2 a s5 hR eN T2 M => ?_)
  obtain ⟨W, m, w0, turn⟩ := hR H2 eN T2
  refine Calls.spliced_nil ?_
  have hfr : X.A.frames = some X.stack := I.ok.frames
  obtain ⟨gn, nm, qn, ga, lim, b5, alt, gst⟩ := gx_gst (S := none) (SR := fun _ _ => True) (A := X.A.in1) M G hN hp hfr hr.hd ⟨hr.hd, by have := hr.dp; show X.A.depth + 3 * (k + 1) + 5 < _; omega, by have := hr.un; show X.A.units + 1 + 1 + 16 * (k + 1) + 200 < _; omega⟩ turn w0
  refine call_function_tree F.kind_any F.plain_any F.entry_any (F.args_any1 _) ?_
  unfold Builtin.«any»
  refine wpAny_bind (m := oneArg "any" _) (wpAny_pure ?_)
  refine wpAny_bind (wpAny_pyIter_gen ⟨_, nm, qn, ga, rfl, rfl, rfl⟩ ?_)
  refine wpAny_pure ⟨plainId_quiet F.plain_any_loop _, any_gx (A := X.A) hr.hd (by have := hr.dp; show X.A.depth < _; omega) (QT := Q (.bl true)) (QF := Q (.bl false)) (fun H s' I' q => ?_) (fun H s' I' q => ?_) sizeLine s5 (gst s5 (fun b e => nomatch e) (fun _ _ e => e) (fun b e => nomatch e) rfl rfl)⟩
  · exact ⟨.bl true, H, I', rfl, q⟩
  · exact ⟨.bl false, H, I', rfl, q⟩
theorem pe_allGx (hr : Room (k + 3) X.A) (TB : TabB X.base X.mg c P) (hcode : X.env.code = .ref c) (hmT : (P, X.env.qual ++ "<genexpr>") ∈ T) (hu : ∀ p ∈ T, p.1 = P → p.2 = X.env.qual ++ "<genexpr>") (G : GxS X scope own) (hN : X.N.Nodup) (hi : PI X tg iter wi)
    (hp : GxParts X k scope tg elt ifs g tt te) (hg : Gl X "all") (hm : X.mg "all" = none) (hs : ∀ v, genFold iter X.env v = pure v)
    (he : starEach [.GeneratorExp elt [⟨tg, iter, ifs, 0⟩] scope gpos] X.env = (false, eval (.GeneratorExp elt [⟨tg, iter, ifs, 0⟩] scope gpos) X.env) :: starEach [] X.env := by rfl) :
    PE X (.Call (.Name "all" p) [.GeneratorExp elt [⟨tg, iter, ifs, 0⟩] scope gpos] [] pos) (tAllGx T wi g tt te (own.map (·.2))) := by
  refine ⟨fun pins s σ H Q I h => ?_⟩
  refine wpAny_Call_Name_kw (ld_blt I hg hm boot_all ?_)
  refine PyProof.Rows.callWith_builtin1 ?_ he (by rfl)
  rw [he]
  show wpAny _ _ (spliced ((false, eval (.GeneratorExp elt [⟨tg, iter, ifs, 0⟩] scope gpos) X.env) :: backTo pos (starEach [] X.env))) _ _ s
  refine Calls.spliced_cons (gx_eval (T := T) hr TB hcode hmT hu G hi hs I h fun J H1 H2 a s5 hR eN T2 M => ?_)
  obtain ⟨W, m, w0, turn⟩ := hR H2 eN T2
  refine Calls.spliced_nil ?_
  have hfr : X.A.frames = some X.stack := I.ok.frames
  obtain ⟨gn, nm, qn, ga, lim, b5, alt, gst⟩ := gx_gst (S := none) (SR := fun _ _ => True) (A := X.A.in1) M G hN hp hfr hr.hd ⟨hr.hd, by have := hr.dp; show X.A.depth + 3 * (k + 1) + 5 < _; omega, by have := hr.un; show X.A.units + 1 + 1 + 16 * (k + 1) + 200 < _; omega⟩ turn w0
  refine call_function_tree F.kind_all F.plain_all F.entry_all (F.args_all1 _) ?_
  unfold Builtin.«all»
  refine wpAny_bind (m := oneArg "all" _) (wpAny_pure ?_)
  refine wpAny_bind (wpAny_pyIter_gen ⟨_, nm, qn, ga, rfl, rfl, rfl⟩ ?_)
  refine wpAny_pure ⟨plainId_quiet F.plain_all_loop _, all_gx (A := X.A) hr.hd (by have := hr.dp; show X.A.depth < _; omega) (QT := Q (.bl true)) (QF := Q (.bl false)) (fun H s' I' q => ?_) (fun H s' I' q => ?_) sizeLine s5 (gst s5 (fun b e => nomatch e) (fun _ _ e => e) (fun b e => nomatch e) rfl rfl)⟩
  · exact ⟨.bl true, H, I', rfl, q⟩
  · exact ⟨.bl false, H, I', rfl, q⟩
end
end GxP

set_option Elab.async false
set_option linter.all false
set_option maxRecDepth 100000
set_option maxHeartbeats 4000000
namespace GxP
open PySem PySem.Spec PyProof.Rows L2 GenW LamX Mi
/-! ### sum of a generator expression -/
def intV : V → Int
  | .int i => i
  | _ => 0
def sumV (ys : List V) : Int := (ys.map intV).sum
theorem sumV_snoc (ys : List V) (y : V) : sumV (ys ++ [y]) = sumV ys + intV y := by unfold sumV; simp
def SRsum (ys : List V) (acc : Array Value) : Prop := ∃ t, acc = #[.int (sumV ys) t]
def CtnSum (ys : List V) (y : V) (_ : Hp) : Prop := ∃ i, y = .int i ∧ InLong i ∧ InLong (sumV ys + i)
section
variable {X : Cx} {pins : List (Addr × Obj)} {σ : L2.St}
theorem sum_gx {R : Result → Shared → Prop} {QS : Int → Hp → Prop} {S a : Addr} {gn : Nat} {nm qn : Value} {A : Around} (hh : A.handled = none) (hd : A.depth < recursionLimit)
    (hR : ∀ i t H s', Inv X pins σ H s' → QS i H → R (.ok (.ret (.int i t))) s') :
    ∀ (n : Nat) (s : Shared), GSt X pins σ (some S) SRsum (fun _ _ _ => False) CtnSum (fun ys H => QS (sumV ys) H) a gn nm qn A.in1 n s → (∃ acc c, s.heap.get? S = some (lstObj acc c) ∧ ∃ ys, SRsum ys acc) →
      codeAny (model X.prog X.w) A (.builtin "sum.loop" ⟨[.ref a, .ref S, rawInt 0, rawInt 0], []⟩) R s := by
  have go : ∀ (n : Nat) (s : Shared), (∀ n' s2, n = n' + 1 → GSt X pins σ (some S) SRsum (fun _ _ _ => False) CtnSum (fun ys H => QS (sumV ys) H) a gn nm qn A.in1 n' s2 → (∃ acc c, s2.heap.get? S = some (lstObj acc c) ∧ ∃ ys, SRsum ys acc) → codeAny (model X.prog X.w) A (.builtin "sum.loop" ⟨[.ref a, .ref S, rawInt 0, rawInt 0], []⟩) R s2) →
      GSt X pins σ (some S) SRsum (fun _ _ _ => False) CtnSum (fun ys H => QS (sumV ys) H) a gn nm qn A.in1 n s → (∃ acc c, s.heap.get? S = some (lstObj acc c) ∧ ∃ ys, SRsum ys acc) → codeAny (model X.prog X.w) A (.builtin "sum.loop" ⟨[.ref a, .ref S, rawInt 0, rawInt 0], []⟩) R s := by
    intro n s ih G hS0
    obtain ⟨acc0, c0, eS0, ys0, t0, rfl⟩ := hS0
    refine codeAny_builtin F.entry_sum_loop ?_
    rw [Around.under_plainId F.plain_sum_loop _]
    show wpAny _ A.in1 (seqItems? (.ref S) >>= _) _ _ s
    refine wpAny_bind (wpAny_seqItems eS0 rfl ?_)
    refine wpAny_bind (wpAny_tryCatch (next_gx (A := A.in1) hh hd G (fun ys y H v s1 rv I hK hS hne hSC => ?_) fun ys H s1 I hK hS hEn => ?_))
    · rcases hSC with q | ⟨⟨i, rfl, fi, fs⟩, hk⟩
      · exact q.elim
      · obtain ⟨t, rfl⟩ := (show ∃ t, v = Value.int i t from rv)
        obtain ⟨hn0, acc, c, eS, t', rfl⟩ := hS S rfl
        have eK : s1.heap.get? S = s.heap.get? S := hK S rfl
        have eT : sumV ys = sumV ys0 := by
          rw [eS, eS0] at eK
          have e1 := congrArg Obj.data (Option.some.inj eK)
          have e2 := (Data.seq.inj e1).1
          have e3 := congrArg Array.toList e2
          have e4 := (List.cons.inj e3).1
          exact (Value.int.inj e4).1
        rw [eT] at fs
        obtain ⟨f1, f2⟩ := fi
        obtain ⟨f3, f4⟩ := fs
        have hc : ((decide (-(2 ^ 63) ≤ i) && decide (i < 2 ^ 63)) && (decide (-(2 ^ 63) ≤ sumV ys0 + i) && decide (sumV ys0 + i < 2 ^ 63))) = true := by
          simp only [Bool.and_eq_true, decide_eq_true_eq]
          exact ⟨⟨f1, f2⟩, f3, f4⟩
        show wpAny _ A.in1 (if (_ : Bool) = true then (mkInt (sumV ys0 + i) >>= _) else _) _ _ _
        split
        · refine wpAny_bind (wpAny_mkInt ?_)
          show wpAny _ A.in1 (updateSeq S (fun _ => #[.int (sumV ys0 + i) s1.toks]) >>= _) _ _ _
          refine wpAny_bind ?_
          have keepB : ∀ (f : Obj → Obj) b o, some b ≠ some S → s1.heap.get? b = some o → (s1.heap.update S f).get? b = some o := fun f b o hb e => (Heap.get?_update_other _ _ (fun z : S = b => hb (by rw [z]))).trans e
          refine wpAny_updateSeq eS rfl (wpAny_pure ⟨plainId_quiet F.plain_sum_loop _, ?_⟩)
          have eS2 := Heap.get?_update_self (Obj.mapSeq (fun _ => #[Value.int (sumV ys0 + i) s1.toks])) eS rfl
          have lim2 : (s1.heap.update S (Obj.mapSeq (fun _ => #[Value.int (sumV ys0 + i) s1.toks]))).NoLimit := by
            obtain ⟨mc, hns, hnn⟩ := I.nolimit
            refine ⟨mc, hns.at' fun o e => keepB _ _ o (fun z => ?_) e, hnn⟩
            obtain ⟨oo, es, ep, ho, hdd, _⟩ := hns
            rw [Option.some.inj z, eS] at ho
            have e1 := congrArg Obj.data (Option.some.inj ho)
            rw [hdd] at e1
            cases e1
          have sr : SRsum (ys ++ [.int i]) #[Value.int (sumV ys0 + i) s1.toks] := ⟨_, by rw [sumV_snoc, eT]; rfl⟩
          obtain ⟨n', e, G'⟩ := hk { s1 with heap := s1.heap.update S (Obj.mapSeq (fun _ => #[Value.int (sumV ys0 + i) s1.toks])), toks := s1.toks + 1 } rfl ⟨rfl, I.bare, fun b o hb e => keepB _ b o hb e, fun b e => by cases e; exact ⟨_, _, eS2, sr⟩⟩ lim2
          exact ih n' _ e G' ⟨_, _, eS2, _, sr⟩
        · rename_i hneg
          exact absurd hc hneg
    · obtain ⟨hn0, acc, c, eS, t', rfl⟩ := hS S rfl
      have eK : s1.heap.get? S = s.heap.get? S := hK S rfl
      have eT : sumV ys = sumV ys0 := by
        rw [eS, eS0] at eK
        have e1 := congrArg Obj.data (Option.some.inj eK)
        have e2 := (Data.seq.inj e1).1
        have e3 := congrArg Array.toList e2
        have e4 := (List.cons.inj e3).1
        exact (Value.int.inj e4).1
      exact wpAny_pure (hR _ _ H _ I (by rw [← eT]; exact hEn))
  intro n
  induction n with
  | zero => exact fun s => go 0 s fun n' s2 e => by cases e
  | succ n ih => exact fun s => go (n + 1) s fun n' s2 e => by cases e; exact ih s2
end
end GxP

set_option Elab.async false
set_option linter.all false
set_option maxRecDepth 100000
set_option maxHeartbeats 4000000
namespace GxP
open PySem PySem.Spec PyProof.Rows L2 GenW LamX Mi
def tSumGx (T : List (Addr × Str)) (wi : TI) (g : TG) (tt : TT) (te : TE) (vs : List Nat) : TE := fun σ H Q => tGx T wi g tt te vs (fun _ _ _ => False) CtnSum (fun ys H => Q (.int (sumV ys)) H) σ H
section
variable {X : Cx} {pins : List (Addr × Obj)} {σ : L2.St} {T : List (Addr × Str)} {c P : Addr} {elt tg iter : Expr} {ifs : List Expr} {gpos p pos : Pos} {scope : Scope} {own : List (Str × Nat)} {wi : TI} {g : TG} {tt : TT} {te : TE} {k : Nat}
theorem boot_sum' : bootBuiltins "sum" = some (.builtin "sum") := by first | exact boot_sum | rfl | decide +kernel
theorem pe_sumGx (hr : Room (k + 3) X.A) (TB : TabB X.base X.mg c P) (hcode : X.env.code = .ref c) (hmT : (P, X.env.qual ++ "<genexpr>") ∈ T) (hu : ∀ p ∈ T, p.1 = P → p.2 = X.env.qual ++ "<genexpr>") (G : GxS X scope own) (hN : X.N.Nodup) (hi : PI X tg iter wi)
    (hp : GxParts X k scope tg elt ifs g tt te) (hg : Gl X "sum") (hm : X.mg "sum" = none) (hs : ∀ v, genFold iter X.env v = pure v)
    (he : starEach [.GeneratorExp elt [⟨tg, iter, ifs, 0⟩] scope gpos] X.env = (false, eval (.GeneratorExp elt [⟨tg, iter, ifs, 0⟩] scope gpos) X.env) :: starEach [] X.env := by rfl) :
    PE X (.Call (.Name "sum" p) [.GeneratorExp elt [⟨tg, iter, ifs, 0⟩] scope gpos] [] pos) (tSumGx T wi g tt te (own.map (·.2))) := by
  refine ⟨fun pins s σ H Q I h => ?_⟩
  refine wpAny_Call_Name_kw (ld_blt I hg hm boot_sum' ?_)
  refine PyProof.Rows.callWith_builtin1 ?_ he (by rfl)
  rw [he]
  show wpAny _ _ (spliced ((false, eval (.GeneratorExp elt [⟨tg, iter, ifs, 0⟩] scope gpos) X.env) :: backTo pos (starEach [] X.env))) _ _ s
  refine Calls.spliced_cons (gx_eval (T := T) hr TB hcode hmT hu G hi hs I h fun J H1 H2 a s5 hR eN T2 M => ?_)
  obtain ⟨W, m, w0, turn⟩ := hR H2 eN T2
  refine Calls.spliced_nil ?_
  have hfr : X.A.frames = some X.stack := I.ok.frames
  obtain ⟨gn, nm, qn, ga, lim, b5, alt, gst⟩ := gx_gst (S := some s5.heap.objs.size) (SR := SRsum) (A := X.A.in1) M G hN hp hfr hr.hd ⟨hr.hd, by have := hr.dp; show X.A.depth + 3 * (k + 1) + 5 < _; omega, by have := hr.un; show X.A.units + 1 + 1 + 16 * (k + 1) + 200 < _; omega⟩ turn w0
  refine call_function_tree F.kind_sum F.plain_sum F.entry_sum (F.args_sum1 _) ?_
  unfold Builtin.«sum»
  simp only [List.length_cons, List.length_nil]
  rw [if_neg (by decide)]
  refine wpAny_bind (wpAny_of_eq (show Builtin.Builtins.bindParams "sum" ["start"] 0 { } = pure [none] from rfl) ?_)
  refine wpAny_bind (wpAny_pyIter_gen ⟨_, nm, qn, ga, rfl, rfl, rfl⟩ ?_)
  refine wpAny_bind (wpAny_mkInt ?_)
  refine wpAny_bind (wpAny_pure ?_)
  simp only [List.forIn_cons, List.forIn_nil]
  refine wpAny_bind (wpAny_bind (wpAny_bind (wpAny_isInstance (T := "int") (b := false) (typeIs_int _ _ _) PySem.sub_int_str ?_)))
  simp only [Bool.false_eq_true, if_false]
  refine wpAny_pure (wpAny_bind (wpAny_bind (wpAny_isInstance (T := "int") (b := false) (typeIs_int _ _ _) sub_int_bytes ?_)))
  simp only [Bool.false_eq_true, if_false]
  refine wpAny_pure (wpAny_bind (wpAny_bind (wpAny_isInstance (T := "int") (b := false) (typeIs_int _ _ _) sub_int_bytearray ?_)))
  simp only [Bool.false_eq_true, if_false]
  refine wpAny_pure (wpAny_pure ?_)
  refine wpAny_bind (wpAny_newObj_type ?_)
  have sr : SRsum [] #[Value.int 0 s5.toks] := ⟨_, rfl⟩
  refine wpAny_pure ⟨plainId_quiet F.plain_sum_loop _, sum_gx (A := X.A) (QS := fun i H => Q (.int i) H) hr.hd (by have := hr.dp; show X.A.depth < _; omega) (fun i t H s' I' q => ?_) sizeLine _
    (gst _ (fun b e => by cases e; exact Nat.le_refl _) (fun b o e => Heap.get?_push_of_some _ e) (fun b e => by cases e; exact ⟨_, _, Heap.get?_push_size _ rfl, sr⟩) rfl rfl) ⟨_, _, Heap.get?_push_size _ rfl, _, sr⟩⟩
  exact ⟨.int i, H, I', ⟨t, rfl⟩, q⟩
end
end GxP

set_option Elab.async false
set_option linter.all false
set_option maxRecDepth 100000
set_option maxHeartbeats 4000000
namespace GxP
open PySem PySem.Spec PyProof.Rows L2 GenW LamX Mi
/-! ### the consumer that collects -/
def SRlst (ys : List V) (acc : Array Value) : Prop := Vals ys acc.toList
def CtnLst (ys : List V) (_ : V) (_ : Hp) : Prop := ys.length < sizeLine
section
variable {X : Cx} {pins : List (Addr × Obj)} {σ : L2.St}
theorem ext_gx {R : Result → Shared → Prop} {En : List V → Hp → Prop} {S a : Addr} {gn : Nat} {nm qn res : Value} {A : Around} (hh : A.handled = none) (hd : A.depth < recursionLimit)
    (hR : ∀ ys H s' acc c, Inv X pins σ H s' → H S = none → s'.heap.get? S = some (lstObj acc c) → Vals ys acc.toList → En ys H → R (.ok (.ret res)) s') :
    ∀ (n : Nat) (s : Shared), GSt X pins σ (some S) SRlst (fun _ _ _ => False) CtnLst En a gn nm qn A.in1 n s → codeAny (model X.prog X.w) A (.builtin "list.extend.loop" ⟨[.ref S, .ref a, res], []⟩) R s := by
  have go : ∀ (n : Nat) (s : Shared), (∀ n' s2, n = n' + 1 → GSt X pins σ (some S) SRlst (fun _ _ _ => False) CtnLst En a gn nm qn A.in1 n' s2 → codeAny (model X.prog X.w) A (.builtin "list.extend.loop" ⟨[.ref S, .ref a, res], []⟩) R s2) →
      GSt X pins σ (some S) SRlst (fun _ _ _ => False) CtnLst En a gn nm qn A.in1 n s → codeAny (model X.prog X.w) A (.builtin "list.extend.loop" ⟨[.ref S, .ref a, res], []⟩) R s := by
    intro n s ih G
    refine codeAny_builtin F.entry_extend_loop ?_
    rw [Around.under_plainId F.plain_extend_loop _]
    show wpAny _ A.in1 (pyNext (.ref a) >>= _) _ _ s
    refine wpAny_bind (next_gx (A := A.in1) hh hd G (fun ys y H v s1 rv I hK hS hne hSC => ?_) fun ys H s1 I hK hS hEn => ?_)
    · rcases hSC with q | ⟨hlt, hk⟩
      · exact q.elim
      · obtain ⟨hn0, acc, c, eS, sr⟩ := hS S rfl
        have hlt : ys.length < sizeLine := hlt
        have sr : Vals ys acc.toList := sr
        have hasz : acc.size < sizeLine := by
          have e1 := sr.length
          have e2 : acc.toList.length = acc.size := by simp
          omega
        show wpAny _ A.in1 (updateSeq S (·.push v) >>= _) _ _ _
        refine wpAny_bind ?_
        have keepB : ∀ (f : Obj → Obj) b o, some b ≠ some S → s1.heap.get? b = some o → (s1.heap.update S f).get? b = some o := fun f b o hb e => (Heap.get?_update_other _ _ (fun z : S = b => hb (by rw [z]))).trans e
        refine wpAny_updateSeq eS rfl (wpAny_pure ⟨plainId_quiet F.plain_extend_loop _, ?_⟩) (Nat.le_of_lt hasz) (by show (acc.push v).size ≤ sizeLine + 1; rw [Array.size_push]; omega)
        have eS2 := Heap.get?_update_self (Obj.mapSeq (·.push v)) eS rfl
        have lim2 : (s1.heap.update S (Obj.mapSeq (·.push v))).NoLimit := by
          obtain ⟨mc, hns, hnn⟩ := I.nolimit
          refine ⟨mc, hns.at' fun o e => keepB _ _ o (fun z => ?_) e, hnn⟩
          obtain ⟨oo, es, ep, ho, hdd, _⟩ := hns
          rw [Option.some.inj z, eS] at ho
          have e1 := congrArg Obj.data (Option.some.inj ho)
          rw [hdd] at e1
          cases e1
        have sr2 : SRlst (ys ++ [y]) (acc.push v) := by
          show Vals (ys ++ [y]) (acc.push v).toList
          rw [Array.toList_push]
          exact sr.append (.cons rv .nil)
        obtain ⟨n', e, G'⟩ := hk { s1 with heap := s1.heap.update S (Obj.mapSeq (·.push v)) } rfl ⟨rfl, I.bare, fun b o hb e => keepB _ b o hb e, fun b e => by cases e; exact ⟨_, _, eS2, sr2⟩⟩ lim2
        exact ih n' _ e G'
    · obtain ⟨hn0, acc, c, eS, sr⟩ := hS S rfl
      exact wpAny_pure (hR ys H _ acc c I hn0 eS sr hEn)
  intro n
  induction n with
  | zero => exact fun s => go 0 s fun n' s2 e => by cases e
  | succ n ih => exact fun s => go (n + 1) s fun n' s2 e => by cases e; exact ih s2
end
end GxP

set_option Elab.async false
set_option linter.all false
set_option maxRecDepth 100000
set_option maxHeartbeats 4000000
namespace GxP
open PySem PySem.Spec PyProof.Rows L2 GenW LamX Mi
section
variable {X : Cx} {pins : List (Addr × Obj)} {σ : L2.St}
theorem collect_gx {Q : List Value → Shared → Prop} {E : Value → Shared → Prop} {En : List V → Hp → Prop} {a : Addr} {gn : Nat} {nm qn : Value} {A : Around} {s : Shared} (hh : A.handled = none) (hd : A.depth < recursionLimit) (ga : s.heap.get? a = some (goObj gn nm qn)) (alt : a < s.heap.objs.size)
    (gst : ∀ s2, (∀ b, some s.heap.objs.size = some b → s.heap.objs.size ≤ b) → (∀ b o, s.heap.get? b = some o → s2.heap.get? b = some o) → (∀ b, some s.heap.objs.size = some b → ∃ acc c, s2.heap.get? b = some (lstObj acc c) ∧ SRlst [] acc) → s2.os = s.os → s2.gens = s.gens →
      GSt X pins σ (some s.heap.objs.size) SRlst (fun _ _ _ => False) CtnLst En a gn nm qn A.in1 sizeLine s2)
    (hQ : ∀ ys H s' (acc : Array Value), Inv X pins σ H s' → Vals ys acc.toList → En ys H → Q acc.toList s') : wpAny (model X.prog X.w) A (collect (.ref a)) Q E s := by
  have hSI : s.heap.objs.size ≠ a := Nat.ne_of_gt alt
  have gty : ∀ {h : Heap}, (∀ b o, s.heap.get? b = some o → h.get? b = some o) → h.IsGen a gn := fun {h} q => ⟨_, nm, qn, q _ _ ga, rfl, rfl, rfl⟩
  have k1 : ∀ b o, s.heap.get? b = some o → (s.heap.push { cls := .type "list", data := .seq ([] : List Value).toArray }).get? b = some o := fun b o e => Heap.get?_push_of_some _ e
  unfold collect
  refine wpAny_bind (wpAny_runValue (codeAny_builtin F.entry_proto_collect ?_))
  rw [Around.under_plainId F.plain_proto_collect _]
  show wpAny _ A.in1 (newList [] >>= fun l => again (.builtin "list.__iadd__" ⟨[l, .ref a], []⟩)) _ _ s
  refine wpAny_bind (wpAny_newObj_type ?_)
  refine wpAny_pure ⟨plainId_quiet F.plain_list_iadd _, codeAny_builtin F.entry_list_iadd ?_⟩
  rw [Around.under_plainId F.plain_list_iadd _]
  show wpAny _ A.in1 (Builtin.List.listExtendWith (.ref s.heap.objs.size) (.ref a) (.ref s.heap.objs.size)) _ _ _
  unfold Builtin.List.listExtendWith
  refine wpAny_bind (wpAny_typeOf (Heap.IsGen.typeIs (s := { s with heap := _ }) (gty k1)) ?_)
  have h1 : Builtin.List.listSameRef (.ref s.heap.objs.size) (.ref a) = false := by simp [Builtin.List.listSameRef, hSI]
  have h2 : (Value.type "generator" == Value.type "list") = false := by decide
  have h3 : (Value.type "generator" == Value.type "tuple") = false := by decide
  simp only [h1, h2, h3, Bool.or_false, Bool.false_eq_true, if_false]
  refine wpAny_bind (wpAny_pyIter_gen (s := { s with heap := _ }) (gty k1) ?_)
  refine wpAny_bind (wpAny_holding ?_)
  unfold Builtin.List.listLengthHint
  refine wpAny_bind (wpAny_specialOf (Heap.IsGen.typeIs (s := { s with heap := _ }) (gty k1)) F.gen_no_len ?_)
  show wpAny _ A.in1 (specialOf (Value.ref a) (Str.ofString "__length_hint__") >>= _) _ _ _
  refine wpAny_bind (wpAny_specialOf (Heap.IsGen.typeIs (s := { s with heap := _ }) (gty k1)) F.gen_no_hint ?_)
  refine wpAny_pure ?_
  show wpAny _ A.in1 (rule "list.extend.makes-room" >>= fun _ => Builtin.List.listTouch (.ref s.heap.objs.size) >>= fun _ =>
    again (.builtin "list.extend.loop" ⟨[.ref s.heap.objs.size, .ref a, .ref s.heap.objs.size], []⟩)) _ _ _
  refine wpAny_bind (wpAny_rule ?_)
  have hS1 : (s.heap.push { cls := .type "list", data := .seq ([] : List Value).toArray }).get? s.heap.objs.size = some { cls := .type "list", data := .seq ([] : List Value).toArray } := Heap.get?_push_size _ rfl
  refine wpAny_bind ?_
  show wpAny _ A.in1 (updateSeq s.heap.objs.size (·.push .none) >>= fun _ => updateSeq s.heap.objs.size (·.pop)) _ _ _
  refine wpAny_bind (wpAny_updateSeq hS1 rfl ?_)
  have hS2 := Heap.get?_update_self (Obj.mapSeq (·.push Value.none)) hS1 rfl
  refine wpAny_updateSeq hS2 rfl ?_
  have hS3 := Heap.get?_update_self (Obj.mapSeq (·.pop)) hS2 rfl
  have oth : ∀ b o, s.heap.get? b = some o →
      (((s.heap.push { cls := .type "list", data := .seq ([] : List Value).toArray }).update s.heap.objs.size (Obj.mapSeq (·.push Value.none))).update s.heap.objs.size (Obj.mapSeq (·.pop))).get? b = some o := fun b o e => by
    have hb : s.heap.objs.size ≠ b := Ne.symm (Nat.ne_of_lt (Heap.lt_size e))
    exact (Heap.get?_update_other _ _ hb).trans ((Heap.get?_update_other _ _ hb).trans (k1 b o e))
  refine wpAny_pure ⟨plainId_quiet F.plain_extend_loop _, ext_gx (A := A) (En := En) hh hd (fun ys H s' acc c I hn hS hv hE => ?_) sizeLine _ (gst _ (fun b e => by cases e; exact Nat.le_refl _) oth (fun b e => by cases e; exact ⟨_, _, hS3, .nil⟩) rfl rfl)⟩
  show wpAny _ A (load s.heap.objs.size >>= _) _ _ s'
  refine wpAny_bind (wpAny_load hS ?_)
  exact wpAny_pure (hQ ys H s' acc I hv hE)
end
end GxP

set_option Elab.async false
set_option linter.all false
set_option maxRecDepth 100000
set_option maxHeartbeats 4000000
namespace GxP
open PySem PySem.Spec PyProof.Rows L2 GenW LamX Mi
open AutoSeq1 (wpAny_loadPart')
def tTupGx (T : List (Addr × Str)) (wi : TI) (g : TG) (tt : TT) (te : TE) (vs : List Nat) : TE := fun σ H Q => tGx T wi g tt te vs (fun _ _ _ => False) CtnLst (fun ys H => ys.length ≤ sizeLine ∧ ∀ p, H p = none → Q (.ref p) (upd H p (.tup ys))) σ H
section
variable {prog : Program} {w : World} {A : Around} {E : Value → Shared → Prop} {s : Shared}
theorem code_tuple_gx {Q₁ : Value → Shared → Prop} {a : Addr} {gn : Nat} {nm qn : Value} (ga : s.heap.get? a = some (goObj gn nm qn))
    (h : wpAny (model prog w) A.in1 (collect (.ref a)) (fun xs s' => xs.length ≤ sizeLine ∧ Q₁ (.ref s'.heap.objs.size) { s' with heap := s'.heap.push { cls := .type "tuple", data := .seq xs.toArray } }) E s) :
    codeAny (model prog w) A (.call (.builtin "tuple.__new__") ⟨[.type "tuple", .ref a], []⟩) (wants Q₁ E) s := by
  refine codeAny_of_tree ?_
  show wpAny _ A.in1 (do checkBuiltinCall "tuple.__new__" ⟨[.type "tuple", .ref a], []⟩; again (.builtin "tuple.__new__" ⟨[.type "tuple", .ref a], []⟩)) _ _ s
  refine wpAny_bind (wpAny_of_eq (F.newCall_tuple_1 _) (wpAny_pure ⟨plainId_quiet F.plain_tuple_new _, codeAny_builtin F.entry_tuple_new ?_⟩))
  rw [Around.under_plainId F.plain_tuple_new _]
  have hsub := sub_tuple_self
  have hinit := init_tuple_lookup
  have hmh := madeHere_tuple
  have hTI : s.TypeIs (.ref a) "generator" := Heap.IsGen.typeIs ⟨_, nm, qn, ga, rfl, rfl, rfl⟩
  wp_walk using wpAny_typeOf hTI, wpAny_mono h
  · intro xs s' ⟨hl, hq⟩
    show wpAny _ _ (Builtin.Tuple.tupleExact xs.toArray >>= fun v => ret v) _ _ _
    unfold Builtin.Tuple.tupleExact
    refine wpAny_bind (wpAny_newObj_type ?_ (by show xs.toArray.size ≤ sizeLine; simpa using hl))
    exact wpAny_pure hq
  · exact fun e s' h => h
theorem call_tuple_gx {Q : Value → Shared → Prop} {a : Addr} {gn : Nat} {nm qn : Value} (ga : s.heap.get? a = some (goObj gn nm qn))
    (h : wpAny (model prog w) A.in1.in1 (collect (.ref a)) (fun xs s' => xs.length ≤ sizeLine ∧ Q (.ref s'.heap.objs.size) { s' with heap := s'.heap.push { cls := .type "tuple", data := .seq xs.toArray } }) E s) :
    wpAny (model prog w) A (call (.type "tuple") [.ref a]) Q E s := by
  refine callType_codes (Q₁ := fun obj s₁ => s₁.TypeIs obj "tuple" ∧ Q obj s₁) F.called_tuple (F.typeCall_tuple_1 _) F.entry_object_init
    (code_tuple_gx ga (wpAny_mono h (fun xs s' q => ⟨q.1, ⟨_, Heap.get?_push_size _ rfl, rfl⟩, q.2⟩) fun _ _ e => e)) fun obj s₁ h₁ => ?_
  exact ⟨h₁.1, F.args_object_init_2 obj _, object_init_meets F.called_tuple.init.lookup F.called_tuple.made (by decide) prog w A.in1 _ s₁ ⟨h₁.1, rfl, h₁.2⟩⟩
end
section
variable {X : Cx} {pins : List (Addr × Obj)} {σ : L2.St} {T : List (Addr × Str)} {c P : Addr} {elt tg iter : Expr} {ifs : List Expr} {gpos p pos : Pos} {scope : Scope} {own : List (Str × Nat)} {wi : TI} {g : TG} {tt : TT} {te : TE} {k : Nat}
theorem pe_tupGx (hr : Room (k + 3) X.A) (TB : TabB X.base X.mg c P) (hcode : X.env.code = .ref c) (hmT : (P, X.env.qual ++ "<genexpr>") ∈ T) (hu : ∀ p ∈ T, p.1 = P → p.2 = X.env.qual ++ "<genexpr>") (G : GxS X scope own) (hN : X.N.Nodup) (hi : PI X tg iter wi)
    (hp : GxParts X k scope tg elt ifs g tt te) (hg : Gl X "tuple") (hm : X.mg "tuple" = none) (hs : ∀ v, genFold iter X.env v = pure v)
    (he : starEach [.GeneratorExp elt [⟨tg, iter, ifs, 0⟩] scope gpos] X.env = (false, eval (.GeneratorExp elt [⟨tg, iter, ifs, 0⟩] scope gpos) X.env) :: starEach [] X.env := by rfl) :
    PE X (.Call (.Name "tuple" p) [.GeneratorExp elt [⟨tg, iter, ifs, 0⟩] scope gpos] [] pos) (tTupGx T wi g tt te (own.map (·.2))) := by
  refine ⟨fun pins s σ H Q I h => ?_⟩
  refine wpAny_Call_Name_kw (ld_blt I hg hm boot_tuple ?_)
  refine PyProof.Rows.callWith_type1 ?_ he (by rfl)
  rw [he]
  show wpAny _ _ (spliced ((false, eval (.GeneratorExp elt [⟨tg, iter, ifs, 0⟩] scope gpos) X.env) :: backTo pos (starEach [] X.env))) _ _ s
  refine Calls.spliced_cons (gx_eval (T := T) hr TB hcode hmT hu G hi hs I h fun J H1 H2 a s5 hR eN T2 M => ?_)
  obtain ⟨W, m, w0, turn⟩ := hR H2 eN T2
  refine Calls.spliced_nil ?_
  have hfr : X.A.frames = some X.stack := I.ok.frames
  obtain ⟨gn, nm, qn, ga, lim, b5, alt, gst⟩ := gx_gst (S := some s5.heap.objs.size) (SR := SRlst) (A := X.A.in1.in1.in1) M G hN hp hfr hr.hd ⟨hr.hd, by have := hr.dp; show X.A.depth + 3 * (k + 1) + 5 < _; omega, by have := hr.un; show X.A.units + 1 + 1 + 1 + 1 + 16 * (k + 1) + 200 < _; omega⟩ turn w0
  refine call_tuple_gx ga (collect_gx (A := X.A.in1.in1) hr.hd (by have := hr.dp; show X.A.depth < _; omega) ga alt gst fun ys H s' acc I' hv hE => ?_)
  obtain ⟨hl, hq⟩ := hE
  have hle : acc.toList.length ≤ sizeLine := by rw [← hv.length]; exact hl
  have hn : H s'.heap.objs.size = none := I'.hok.fresh (Nat.le_refl _)
  have ob : ObjOk X.prog X.w (upd H s'.heap.objs.size (.tup ys)) (s'.heap.push { cls := .type "tuple", data := .seq acc.toList.toArray }) s'.heap.objs.size (.tup ys) := by
    refine ⟨hl, acc.toList, hv, ?_⟩
    first
      | exact ⟨_, Heap.get?_push_size _ rfl, rfl, rfl⟩
      | exact ⟨_, Heap.get?_push_size _ rfl, rfl, 0, rfl⟩
      | exact ⟨_, Heap.get?_push_size _ rfl, rfl, _, rfl⟩
  exact ⟨hle, .ref s'.heap.objs.size, _, I'.laid (t' := s'.toks) (fun b o e => Heap.get?_push_of_some _ e) (Nat.le_refl _) ob, rfl, hq _ hn⟩
end
end GxP

set_option Elab.async false
set_option linter.all false
set_option maxRecDepth 100000
set_option maxHeartbeats 4000000
namespace Mi
open PySem L2 GxP
/-! ### generator expressions by data -/
def cgo {α : Type} (t : Tg) (fc : Cb Bool) (fe : Cb D) (step : α → D → Option (α ⊕ D)) (fin : α → Option D) : List D → α → En → Sto → Option (Out D)
  | [], a, _, μ => (match fin a with
    | some d => some (.ok d μ)
    | none => none)
  | d :: ds, a, ρ, μ => match t d ρ μ with
    | some (ρ1, μ1) => (match fc ρ1 μ1 with
      | some (.ok true μ2) => (match fe ρ1 μ2 with
        | some (.ok y μ3) => (match step a y with
          | some (.inl a') => cgo t fc fe step fin ds a' ρ μ3
          | some (.inr z) => some (.ok z μ3)
          | none => none)
        | _ => none)
      | some (.ok false μ2) => cgo t fc fe step fin ds a ρ μ2
      | _ => none)
    | none => none
def bGx {α : Type} (own : List Nat) (fit : Cb (List D)) (t : Tg) (fc : Cb Bool) (fe : Cb D) (a0 : α) (step : α → D → Option (α ⊕ D)) (fin : α → Option D) : Cb D := fun ρ μ => ob (fit ρ μ) fun ds μ1 => if ds.length ≤ 16777216 then cgo t fc fe step fin ds a0 (wipeD ρ own) μ1 else none
def stAny (_ : Unit) : D → Option (Unit ⊕ D)
  | .bl true => some (.inr (.bl true))
  | .bl false => some (.inl ())
  | _ => none
def stAll (_ : Unit) : D → Option (Unit ⊕ D)
  | .bl false => some (.inr (.bl false))
  | .bl true => some (.inl ())
  | _ => none
def stSum (a : Int) : D → Option (Int ⊕ D)
  | .int i => if (-(2 ^ 63) ≤ i ∧ i < 2 ^ 63) ∧ (-(2 ^ 63) ≤ a + i ∧ a + i < 2 ^ 63) then some (.inl (a + i)) else none
  | _ => none
def stTup (a : List D) (y : D) : Option (List D ⊕ D) := some (.inl (a ++ [y]))
end Mi

set_option Elab.async false
set_option linter.all false
set_option maxRecDepth 100000
set_option maxHeartbeats 4000000
namespace Mi
open PySem L2 GxP LamX
section
variable {g : Gb} {k j : Nat} {Λ : Lr} {X : Cx} {W : WX} {α : Type} {own : List Nat} {fit : Cb (List D)} {t : Tg} {tc : Cb Bool} {fe : Cb D} {a0 : α} {step : α → D → Option (α ⊕ D)} {fin : α → Option D} {σ : St} {H : Hp} {Q : VK}
theorem wipe_idem (σ : St) (own : List Nat) : wipe (wipe σ own) own = wipe σ own := by
  have idem : ∀ (vs ws : List Nat), (∀ v ∈ vs, v ∈ ws) → wipe (wipe σ ws) vs = wipe σ ws := by
    intro vs ws
    induction vs with
    | nil => intro _; rfl
    | cons v vs ih =>
      intro hm
      have e1 := ih fun u hu => hm u (List.mem_cons_of_mem _ hu)
      show (wipe (wipe σ ws) vs).set v none = wipe σ ws
      rw [e1]
      exact wipe_none σ v ws (hm v List.mem_cons_self)
  exact idem own own fun _ h => h
theorem rd_gx {AR : List Addr → Hp → α → List V → Prop} {Stp Ctn : List V → V → Hp → Prop} {En : List V → Hp → Prop} (hext : ∀ ι H ι' H' a ys, Ext ι H ι' H' → AR ι H a ys → AR ι' H' a ys) (h0 : ∀ ι H, AR ι H a0 [])
    (hstep : ∀ ι H μ a y a' ys v, MR g Λ ι H μ → AR ι H a ys → Rep g.K Λ ι H y v → ys.length < 16777216 → step a y = some (.inl a') → Ctn ys v H ∧ AR ι H a' (ys ++ [v]))
    (hstop : ∀ ι H μ a y z ys v, MR g Λ ι H μ → AR ι H a ys → Rep g.K Λ ι H y v → step a y = some (.inr z) → (∀ u, Rep g.K Λ ι H z u → Q u H) → Stp ys v H)
    (hfin : ∀ ι H μ a ys d, MR g Λ ι H μ → AR ι H a ys → fin a = some d → ys.length ≤ 16777216 → (∀ ι' H' v, Ext ι H ι' H' → MR g Λ ι' H' μ → Rep g.K Λ ι' H' d v → Q v H') → En ys H)
    (h : rdE g Λ W (bGx own fit t tc fe a0 step fin) σ H Q) : tGx g.T (rdI g Λ W fit) (rdG g Λ own t) (rdT g Λ W0 tc) (rdE g Λ W0 fe) own Stp Ctn En σ H := by
  obtain ⟨ι, ρ, μ, r, l, m, e, p⟩ := h
  have e : ob (fit ρ μ) (fun ds μ1 => if ds.length ≤ 16777216 then cgo t tc fe step fin ds a0 (wipeD ρ own) μ1 else none) = some r := e
  cases q : fit ρ μ with
  | none => rw [q] at e; cases e
  | some o =>
    refine ⟨ι, ρ, μ, o, l, m, q, ?_⟩
    rw [q] at e
    cases o with
    | exc c μ1 => cases e; exact p
    | ok ds μ1 =>
      intro ι1 H1 J x1 m1 it
      have e : (if ds.length ≤ 16777216 then cgo t tc fe step fin ds a0 (wipeD ρ own) μ1 else none) = some r := e
      split at e
      · rename_i hds
        refine ⟨m1.tabs, fun Hs eN TT => ?_⟩
        have xs : Ext ι1 H1 ι1 Hs := ext_of_n eN
        have ms := m1.ofN eN TT
        have lw : LR g Λ ι1 Hs (wipe σ own) (wipeD ρ own) := (l.ext (x1.trans xs)).wipe own
        refine ⟨fun i n ys H2 => ∃ ι2 μ2 a, i ≤ ds.length ∧ n = ds.length - i ∧ ys.length ≤ i ∧ Ext ι1 Hs ι2 H2 ∧ MR g Λ ι2 H2 μ2 ∧ LR g Λ ι2 H2 (wipe σ own) (wipeD ρ own) ∧ AR ι2 H2 a ys ∧ cgo t tc fe step fin (ds.drop i) a (wipeD ρ own) μ2 = some r,
          _, ⟨ι1, μ1, a0, Nat.zero_le _, rfl, Nat.le_refl _, .refl _ _, ms, lw, h0 _ _, e⟩, ?_⟩
        intro i n ys H2 ⟨ι2, μ2, a, hi, hn, hy, x2, m2, l2, ra, e2⟩
        obtain ⟨stop, go⟩ := it Λ (fun d v rv => rv) ι2 H2 μ2 (xs.trans x2) m2 i
        by_cases hl : ds.length ≤ i
        · rw [List.drop_of_length_le hl] at e2
          refine .inl ⟨stop hl, ?_⟩
          have e2 : (match fin a with | some d => some (Out.ok d μ2) | none => none) = some r := e2
          split at e2
          · rename_i d hd
            cases e2
            exact hfin ι2 H2 μ2 a ys d m2 ra hd (by omega) fun ι' H' v x' m' r' => p ι' H' v ((x1.trans xs).trans (x2.trans x')) m' r'
          · cases e2
        · have hlt : i < ds.length := by omega
          obtain ⟨g1, g2⟩ := go ds[i] (List.getElem?_eq_getElem hlt)
          rw [List.drop_eq_getElem_cons hlt] at e2
          refine .inr ⟨g1, fun ys' H3 => ∃ ι2 μ2 a, ys'.length ≤ i + 1 ∧ Ext ι1 Hs ι2 H3 ∧ MR g Λ ι2 H3 μ2 ∧ LR g Λ ι2 H3 (wipe σ own) (wipeD ρ own) ∧ AR ι2 H3 a ys' ∧ cgo t tc fe step fin (ds.drop (i + 1)) a (wipeD ρ own) μ2 = some r,
            fun ys' H3 ⟨ι3, μ3, a3, y0, y1, y2, y3, y4, y5⟩ => ⟨ds.length - (i + 1), by omega, ι3, μ3, a3, by omega, rfl, y0, y1, y2, y3, y4, y5⟩, fun x H3 hyl => ?_⟩
          obtain ⟨sm, rx⟩ := g2 x H3 hyl
          have x3 : Ext ι2 H2 ι2 H3 := .of_sam sm
          unfold cgo at e2
          split at e2
          · rename_i ρ4 μ4 q4
            refine ⟨ι2, wipeD ρ own, μ2, ds[i], ρ4, μ4, l2.ext x3, m2.sam sm, rx, q4, fun ι5 H5 σ5 x5 m5 l5 w5 => ⟨by rw [w5]; exact wipe_idem σ own, ?_⟩⟩
            split at e2
            · rename_i μ5 q5
              refine ⟨ι5, ρ4, μ4, _, l5, m5, q5, fun ι6 H6 x6 m6 => ?_⟩
              show (if true = true then _ else _)
              rw [if_pos rfl]
              have x26 : Ext ι2 H2 ι6 H6 := (x3.trans x5).trans x6
              split at e2
              · rename_i y μ7 q6
                refine ⟨ι6, ρ4, μ5, _, l5.ext x6, m6, q6, fun ι7 H7 v x7 m7 rv => ?_⟩
                have x27 := x26.trans x7
                have r7 := hext _ _ _ _ _ _ x27 ra
                refine ⟨by rw [sizeLine_eq]; omega, ?_⟩
                split at e2
                · rename_i a' qs
                  obtain ⟨c1, c2⟩ := hstep ι7 H7 μ7 a y a' ys v m7 r7 rv (by omega) qs
                  exact .inr ⟨c1, ι7, μ7, a', by rw [List.length_append, List.length_singleton]; omega, x2.trans x27, m7, l2.ext x27, c2, e2⟩
                · rename_i z qs
                  cases e2
                  exact .inl (hstop ι7 H7 μ7 a y z ys v m7 r7 rv qs fun u ru => p ι7 H7 u ((x1.trans xs).trans (x2.trans x27)) m7 ru)
                · cases e2
              · cases e2
            · rename_i μ5 q5
              refine ⟨ι5, ρ4, μ4, _, l5, m5, q5, fun ι6 H6 x6 m6 => ?_⟩
              show (if false = true then _ else _)
              rw [if_neg (by decide)]
              have x26 : Ext ι2 H2 ι6 H6 := (x3.trans x5).trans x6
              exact ⟨ι6, μ5, a, by omega, x2.trans x26, m6, l2.ext x26, hext _ _ _ _ _ _ x26 ra, e2⟩
            · cases e2
          · cases e2
      · cases e
end
end Mi

set_option Elab.async false
set_option linter.all false
set_option maxRecDepth 100000
set_option maxHeartbeats 4000000
namespace Mi
open PySem L2 GxP LamX
section
variable {g : Gb} {k j : Nat} {Λ : Lr} {X : Cx} {W : WX} {tg elt iter : Expr} {ifs : List Expr} {own : List (Str × Nat)} {fit : Cb (List D)} {t : Tg} {tc : Cb Bool} {fe : Cb D} {scope : Scope} {c P : Addr} {gpos p pos : Pos} {T : List (Addr × Str)}
/-- all that a generator expression's parts are to be shown for -/
abbrev GBlk (k : Nat) (X : Cx) (scope : Scope) (P : Cx → Prop) : Prop := ∀ (A : Around) (s : Shared) (H : Hp) (L : Addr) (code : Value) (fp : List Addr) (pn : List (Addr × Obj)), Room k (A.deeper (gxEnv X scope L code)) → P (gxCx X A s H (gxEnv X scope L code) fp pn)
theorem XOk.gx {A : Around} {s : Shared} {H : Hp} {cenv : Env} {fp : List Addr} {pn : List (Addr × Obj)} (ok : XOk g k X) (hr : Room j (A.deeper cenv)) : XOk g j (gxCx X A s H cenv fp pn) := ⟨ok.P, ok.w, ok.K, ok.mg, ok.base, rfl, hr, ok.nd, PassesOwn.never⟩
def gxSB (N : List Str) (sc scope : Scope) (own : List (Str × Nat)) : Bool := blkC N sc scope own && scope.names.all (fun y => !decide (y.2 = .cell)) && !scope.isCoroutine && decide (scope.names.lookup (".0" : Str) = some NameKind.local)
theorem gxS_by (h : gxSB X.N X.env.scope scope own = true) : GxS X scope own := by
  unfold gxSB at h
  simp only [Bool.and_eq_true, decide_eq_true_eq, Bool.not_eq_true'] at h
  obtain ⟨⟨⟨h1, h2⟩, h3⟩, h4⟩ := h
  refine ⟨blkOk_by h1, fun y hy e => ?_, h3, h4⟩
  have := List.all_eq_true.mp h2 y hy
  rw [e] at this
  simp at this
theorem gx_parts (ok : XOk g k X) (ht : GBlk j X scope fun X' => DG g j Λ X' W0 (own.map (·.2)) tg t) (hc : GBlk j X scope fun X' => DTs g j Λ X' W0 ifs tc) (he : GBlk j X scope fun X' => DE g j Λ X' W0 elt fe) :
    GxParts X j scope tg elt ifs (rdG g Λ (own.map (·.2)) t) (rdT g Λ W0 tc) (rdE g Λ W0 fe) := fun A s H L code fp pn hr =>
  ⟨ht A s H L code fp pn hr (ok.gx hr) takesN, hc A s H L code fp pn hr (ok.gx hr) takesN, he A s H L code fp pn hr (ok.gx hr) takesN⟩
theorem de_anyGx (own : List (Str × Nat)) (hk : j + 3 ≤ k) (hm : g.mg "any" = none) (TB : TabB g.base g.mg c P) (hmT : (P, X.env.qual ++ "<genexpr>") ∈ g.T) (hu : ∀ p ∈ g.T, p.1 = P → p.2 = X.env.qual ++ "<genexpr>") (hb : gxSB X.N X.env.scope scope own = true) (hi : DI g k Λ X W tg iter fit)
    (ht : GBlk j X scope fun X' => DG g j Λ X' W0 (own.map (·.2)) tg t) (hc : GBlk j X scope fun X' => DTs g j Λ X' W0 ifs tc) (he : GBlk j X scope fun X' => DE g j Λ X' W0 elt fe) (hg : Gl X "any" := by rfl) (hcode : X.env.code = .ref c := by rfl) (hs : ∀ v, genFold iter X.env v = pure v := by intro _; rfl)
    (hse : starEach [.GeneratorExp elt [⟨tg, iter, ifs, 0⟩] scope gpos] X.env = (false, eval (.GeneratorExp elt [⟨tg, iter, ifs, 0⟩] scope gpos) X.env) :: starEach [] X.env := by rfl) :
    DE g k Λ X W (.Call (.Name "any" p) [.GeneratorExp elt [⟨tg, iter, ifs, 0⟩] scope gpos] [] pos) (bGx (own.map (·.2)) fit t tc fe () stAny fun _ => some (.bl false)) := fun ok tk =>
  PE.imp (pe_anyGx (ok.room.mono hk) (by rw [ok.base, ok.mg]; exact TB) hcode hmT hu (gxS_by hb) ok.nd (hi ok tk) (gx_parts ok ht hc he) hg (by rw [ok.mg]; exact hm) hs hse) fun σ H Q h =>
    rd_gx (AR := fun _ _ _ _ => True) (fun _ _ _ _ _ _ _ _ => trivial) (fun _ _ => trivial) (fun ι H μ a y a' ys v m _ r _ e => by
      unfold stAny at e
      split at e
      · cases e
      · cases r; exact ⟨rfl, trivial⟩
      · cases e) (fun ι H μ a y z ys v m _ r e q => by
      unfold stAny at e
      split at e
      · cases e; cases r; exact ⟨rfl, q _ rfl⟩
      · cases e
      · cases e) (fun ι H μ a ys d m _ e _ q => by cases e; exact q ι H _ (.refl _ _) m rfl) h
theorem de_allGx (own : List (Str × Nat)) (hk : j + 3 ≤ k) (hm : g.mg "all" = none) (TB : TabB g.base g.mg c P) (hmT : (P, X.env.qual ++ "<genexpr>") ∈ g.T) (hu : ∀ p ∈ g.T, p.1 = P → p.2 = X.env.qual ++ "<genexpr>") (hb : gxSB X.N X.env.scope scope own = true) (hi : DI g k Λ X W tg iter fit)
    (ht : GBlk j X scope fun X' => DG g j Λ X' W0 (own.map (·.2)) tg t) (hc : GBlk j X scope fun X' => DTs g j Λ X' W0 ifs tc) (he : GBlk j X scope fun X' => DE g j Λ X' W0 elt fe) (hg : Gl X "all" := by rfl) (hcode : X.env.code = .ref c := by rfl) (hs : ∀ v, genFold iter X.env v = pure v := by intro _; rfl)
    (hse : starEach [.GeneratorExp elt [⟨tg, iter, ifs, 0⟩] scope gpos] X.env = (false, eval (.GeneratorExp elt [⟨tg, iter, ifs, 0⟩] scope gpos) X.env) :: starEach [] X.env := by rfl) :
    DE g k Λ X W (.Call (.Name "all" p) [.GeneratorExp elt [⟨tg, iter, ifs, 0⟩] scope gpos] [] pos) (bGx (own.map (·.2)) fit t tc fe () stAll fun _ => some (.bl true)) := fun ok tk =>
  PE.imp (pe_allGx (ok.room.mono hk) (by rw [ok.base, ok.mg]; exact TB) hcode hmT hu (gxS_by hb) ok.nd (hi ok tk) (gx_parts ok ht hc he) hg (by rw [ok.mg]; exact hm) hs hse) fun σ H Q h =>
    rd_gx (AR := fun _ _ _ _ => True) (fun _ _ _ _ _ _ _ _ => trivial) (fun _ _ => trivial) (fun ι H μ a y a' ys v m _ r _ e => by
      unfold stAll at e
      split at e
      · cases e
      · cases r; exact ⟨rfl, trivial⟩
      · cases e) (fun ι H μ a y z ys v m _ r e q => by
      unfold stAll at e
      split at e
      · cases e; cases r; exact ⟨rfl, q _ rfl⟩
      · cases e
      · cases e) (fun ι H μ a ys d m _ e _ q => by cases e; exact q ι H _ (.refl _ _) m rfl) h
end
end Mi

set_option Elab.async false
set_option linter.all false
set_option maxRecDepth 100000
set_option maxHeartbeats 4000000
namespace Mi
open PySem L2 GxP LamX
section
variable {g : Gb} {k j : Nat} {Λ : Lr} {X : Cx} {W : WX} {tg elt iter : Expr} {ifs : List Expr} {own : List (Str × Nat)} {fit : Cb (List D)} {t : Tg} {tc : Cb Bool} {fe : Cb D} {scope : Scope} {c P : Addr} {gpos p pos : Pos} {T : List (Addr × Str)}
theorem de_sumGx (own : List (Str × Nat)) (hk : j + 3 ≤ k) (hm : g.mg "sum" = none) (TB : TabB g.base g.mg c P) (hmT : (P, X.env.qual ++ "<genexpr>") ∈ g.T) (hu : ∀ p ∈ g.T, p.1 = P → p.2 = X.env.qual ++ "<genexpr>") (hb : gxSB X.N X.env.scope scope own = true) (hi : DI g k Λ X W tg iter fit)
    (ht : GBlk j X scope fun X' => DG g j Λ X' W0 (own.map (·.2)) tg t) (hc : GBlk j X scope fun X' => DTs g j Λ X' W0 ifs tc) (he : GBlk j X scope fun X' => DE g j Λ X' W0 elt fe) (hg : Gl X "sum" := by rfl) (hcode : X.env.code = .ref c := by rfl) (hs : ∀ v, genFold iter X.env v = pure v := by intro _; rfl)
    (hse : starEach [.GeneratorExp elt [⟨tg, iter, ifs, 0⟩] scope gpos] X.env = (false, eval (.GeneratorExp elt [⟨tg, iter, ifs, 0⟩] scope gpos) X.env) :: starEach [] X.env := by rfl) :
    DE g k Λ X W (.Call (.Name "sum" p) [.GeneratorExp elt [⟨tg, iter, ifs, 0⟩] scope gpos] [] pos) (bGx (own.map (·.2)) fit t tc fe (0 : Int) stSum fun n => some (.int n)) := fun ok tk =>
  PE.imp (pe_sumGx (ok.room.mono hk) (by rw [ok.base, ok.mg]; exact TB) hcode hmT hu (gxS_by hb) ok.nd (hi ok tk) (gx_parts ok ht hc he) hg (by rw [ok.mg]; exact hm) hs hse) fun σ H Q h =>
    rd_gx (AR := fun _ _ a ys => sumV ys = a) (fun _ _ _ _ _ _ _ h => h) (fun _ _ => rfl) (fun ι H μ a y a' ys v m ra r _ e => by
      unfold stSum at e
      split at e
      · split at e
        · rename_i i hi
          cases e
          cases r
          have ra : sumV ys = a := ra
          refine ⟨⟨i, rfl, hi.1, by rw [ra]; exact hi.2⟩, ?_⟩
          show sumV (ys ++ [V.int i]) = a + i
          rw [sumV_snoc, ra]
          rfl
        · cases e
      · cases e) (fun ι H μ a y z ys v m _ r e q => by
      unfold stSum at e
      split at e
      · split at e <;> cases e
      · cases e) (fun ι H μ a ys d m ra e _ q => by cases e; exact q ι H _ (.refl _ _) m (by show V.int _ = V.int _; rw [show sumV ys = a from ra])) h
theorem de_tupGx (own : List (Str × Nat)) (hk : j + 3 ≤ k) (hm : g.mg "tuple" = none) (TB : TabB g.base g.mg c P) (hmT : (P, X.env.qual ++ "<genexpr>") ∈ g.T) (hu : ∀ p ∈ g.T, p.1 = P → p.2 = X.env.qual ++ "<genexpr>") (hb : gxSB X.N X.env.scope scope own = true) (hi : DI g k Λ X W tg iter fit)
    (ht : GBlk j X scope fun X' => DG g j Λ X' W0 (own.map (·.2)) tg t) (hc : GBlk j X scope fun X' => DTs g j Λ X' W0 ifs tc) (he : GBlk j X scope fun X' => DE g j Λ X' W0 elt fe) (hg : Gl X "tuple" := by rfl) (hcode : X.env.code = .ref c := by rfl) (hs : ∀ v, genFold iter X.env v = pure v := by intro _; rfl)
    (hse : starEach [.GeneratorExp elt [⟨tg, iter, ifs, 0⟩] scope gpos] X.env = (false, eval (.GeneratorExp elt [⟨tg, iter, ifs, 0⟩] scope gpos) X.env) :: starEach [] X.env := by rfl) :
    DE g k Λ X W (.Call (.Name "tuple" p) [.GeneratorExp elt [⟨tg, iter, ifs, 0⟩] scope gpos] [] pos) (bGx (own.map (·.2)) fit t tc fe ([] : List D) stTup fun xs => some (.tup xs)) := fun ok tk =>
  PE.imp (pe_tupGx (ok.room.mono hk) (by rw [ok.base, ok.mg]; exact TB) hcode hmT hu (gxS_by hb) ok.nd (hi ok tk) (gx_parts ok ht hc he) hg (by rw [ok.mg]; exact hm) hs hse) fun σ H Q h =>
    rd_gx (AR := fun ι H a ys => Reps g.K Λ ι H a ys) (fun _ _ _ _ a _ x h => Reps.ext x a h) (fun ι H => show Reps g.K Λ ι H ([] : List D) [] from rfl) (fun ι H μ a y a' ys v m ra r hl e => by
      cases e
      exact ⟨by show ys.length < sizeLine; rw [sizeLine_eq]; exact hl, Reps.app ra (Reps.one r)⟩) (fun ι H μ a y z ys v m _ r e q => by cases e) (fun ι H μ a ys d m ra e hl q => by
      cases e
      refine ⟨by rw [sizeLine_eq]; exact hl, fun p hp => ?_⟩
      obtain ⟨x1, m1, r1⟩ := new_tup m hp ra
      exact q ι _ (.ref p) x1 m1 r1) h
end
end Mi

set_option Elab.async false
set_option linter.all false
set_option maxRecDepth 100000
set_option maxHeartbeats 4000000
namespace Mi
open PySem L2 RZ
/-! ### zip -/
def zipD : List D → List D → List D
  | x :: xs, y :: ys => .tup [x, y] :: zipD xs ys
  | _, _ => []
theorem zipD_get : ∀ (xs ys : List D) (i : Nat) (d : D), (zipD xs ys)[i]? = some d → ∃ x y, xs[i]? = some x ∧ ys[i]? = some y ∧ d = .tup [x, y]
  | [], _, i, d, h => by simp [zipD] at h
  | _ :: _, [], i, d, h => by simp [zipD] at h
  | x :: xs, y :: ys, 0, d, h => by simp [zipD] at h; exact ⟨x, y, rfl, rfl, h.symm⟩
  | x :: xs, y :: ys, i + 1, d, h => by
    obtain ⟨a, b, h1, h2, h3⟩ := zipD_get xs ys i d (by simpa [zipD] using h)
    exact ⟨a, b, by simpa using h1, by simpa using h2, h3⟩
theorem zipD_len : ∀ (xs ys : List D) (i : Nat), (zipD xs ys).length ≤ i → xs.length ≤ i ∨ ys.length ≤ i
  | [], _, i, h => .inl (Nat.zero_le _)
  | _ :: _, [], i, h => .inr (Nat.zero_le _)
  | x :: xs, y :: ys, 0, h => by simp [zipD] at h
  | x :: xs, y :: ys, i + 1, h => by
    have := zipD_len xs ys i (by simpa [zipD] using h)
    simpa using this
def bZip (f : Cb (List D)) : Cb (List D) := fun ρ μ => ob (f ρ μ) fun ds μ1 => match ds with
  | [.lst xs, .lst ys] => some (.ok (zipD xs ys) μ1)
  | [.tup xs, .tup ys] => some (.ok (zipD xs ys) μ1)
  | _ => none
section
variable {g : Gb} {k j : Nat} {Λ : Lr} {X : Cx} {W : WX} {a b : Expr} {pos : Pos} {fs : Cb (List D)}
theorem di_zip {p tpos : Pos} {elts : List Expr} {kk : Nat} (hm : g.mg "zip" = none) (ha : DA g k Λ X W [a, b] fs) (hg : Gl X "zip" := by rfl) (hs : starEach [a, b] X.env = (false, eval a X.env) :: starEach [b] X.env := by rfl) (hpl : (backTo pos (starEach [b] X.env)).any (·.1) = false := by rfl) :
    DI g k Λ X W (.Tuple elts kk tpos) (.Call (.Name "zip" p) [a, b] [] pos) (bZip fs) := fun ok tk =>
  PI.imp (pi_zipA hg (by rw [ok.mg]; exact hm) (ha ok tk) hs hpl) fun σ H R ⟨ι, ρ, μ, r, l, m, e, p⟩ => goI_A l m e (by cases r with | ok _ _ => trivial | exc _ _ => exact p) fun ds μ1 ι1 H1 us e1 e2 x1 m1 l1 r1 => by
    split at e2
    · rename_i xs ys
      cases e2
      obtain ⟨v, u, rfl, rv, ru⟩ := r1.inv2
      obtain ⟨ad, ws, rfl, h2, h3⟩ := rv
      obtain ⟨bd, zs, rfl, k2, k3⟩ := ru
      refine ⟨ad, bd, ws, zs, rfl, .inl ⟨by rw [ok.K]; exact .inl h2.1, by rw [ok.K]; exact .inl k2.1, p ι1 H1 _ x1 m1 fun Λ' hΛ ι2 H2 μ2 x2 m2 i => ?_⟩⟩
      obtain ⟨ad2, ws2, z, h5, h6⟩ := (Rep.ext x2 (.lst xs) (hΛ _ _ ⟨ad, ws, rfl, h2, h3⟩) : Rep g.K Λ' ι2 H2 (.lst xs) (.ref ad))
      cases z
      obtain ⟨bd2, zs2, z, k5, k6⟩ := (Rep.ext x2 (.lst ys) (hΛ _ _ ⟨bd, zs, rfl, k2, k3⟩) : Rep g.K Λ' ι2 H2 (.lst ys) (.ref bd))
      cases z
      have s1 : SqL X.K H2 ad ws2 := .inl h5.1
      have s2 : SqL X.K H2 bd zs2 := .inl k5.1
      refine ⟨fun hi => ⟨ws2, zs2, s1, s2, by rw [← h6.len, ← k6.len]; exact zipD_len xs ys i hi⟩, fun d hd => ?_⟩
      obtain ⟨x, y, e1, e2, rfl⟩ := zipD_get xs ys i d hd
      obtain ⟨x', hx, rx⟩ := h6.get e1
      obtain ⟨y', hy, ry⟩ := k6.get e2
      refine ⟨⟨ws2, zs2, x', y', s1, s2, hx, hy⟩, fun v H3 hyl => ?_⟩
      obtain ⟨q, u1, u2, rfl, hq, rfl, t1, t2⟩ := hyl
      have e3 := t1 ws2 s1
      rw [hx] at e3
      cases e3
      have e4 := t2 zs2 s2
      rw [hy] at e4
      cases e4
      have hr : Reps g.K Λ' ι2 H2 [x, y] [x', y'] := ⟨_, _, rfl, rx, Reps.one ry⟩
      obtain ⟨y1, y2, y3⟩ := new_tup m2 hq hr
      exact ⟨sam_upd hq, y3⟩
    · rename_i xs ys
      cases e2
      obtain ⟨v, u, rfl, rv, ru⟩ := r1.inv2
      obtain ⟨ad, ws, rfl, h2, h3⟩ := rv
      obtain ⟨bd, zs, rfl, k2, k3⟩ := ru
      refine ⟨ad, bd, ws, zs, rfl, .inr ⟨by rw [ok.K]; exact h2.sq, by rw [ok.K]; exact k2.sq, p ι1 H1 _ x1 m1 fun Λ' hΛ ι2 H2 μ2 x2 m2 i => ?_⟩⟩
      obtain ⟨ad2, ws2, z, h5, h6⟩ := (Rep.ext x2 (.tup xs) (hΛ _ _ ⟨ad, ws, rfl, h2, h3⟩) : Rep g.K Λ' ι2 H2 (.tup xs) (.ref ad))
      cases z
      obtain ⟨bd2, zs2, z, k5, k6⟩ := (Rep.ext x2 (.tup ys) (hΛ _ _ ⟨bd, zs, rfl, k2, k3⟩) : Rep g.K Λ' ι2 H2 (.tup ys) (.ref bd))
      cases z
      have s1 : SqT X.K H2 ad ws2 := by rw [ok.K]; exact h5.sq
      have s2 : SqT X.K H2 bd zs2 := by rw [ok.K]; exact k5.sq
      refine ⟨fun hi => ⟨ws2, zs2, s1, s2, by rw [← h6.len, ← k6.len]; exact zipD_len xs ys i hi⟩, fun d hd => ?_⟩
      obtain ⟨x, y, e1, e2, rfl⟩ := zipD_get xs ys i d hd
      obtain ⟨x', hx, rx⟩ := h6.get e1
      obtain ⟨y', hy, ry⟩ := k6.get e2
      refine ⟨⟨ws2, zs2, x', y', s1, s2, hx, hy⟩, fun v H3 hyl => ?_⟩
      obtain ⟨q, u1, u2, rfl, hq, rfl, t1, t2⟩ := hyl
      have e3 := t1 ws2 s1
      rw [hx] at e3
      cases e3
      have e4 := t2 zs2 s2
      rw [hy] at e4
      cases e4
      have hr : Reps g.K Λ' ι2 H2 [x, y] [x', y'] := ⟨_, _, rfl, rx, Reps.one ry⟩
      obtain ⟨y1, y2, y3⟩ := new_tup m2 hq hr
      exact ⟨sam_upd hq, y3⟩
    · cases e2
end
end Mi

set_option Elab.async false
set_option linter.all false
set_option maxRecDepth 100000
set_option maxHeartbeats 4000000
namespace Mi
open PySem PySem.Spec PyProof.Rows L2 LamX
/-! ### a comprehension whose test looks at the def's own frame -/
/-- the def's own frame is still there, seen from a block of it -/
def Outs (X Xb : Cx) (σ : L2.St) : Prop := ∀ (pins' : List (Addr × Obj)) (σ' : L2.St) (H' : Hp) (s' : Shared), Inv Xb pins' σ' H' s' → ∃ pins, Inv X pins σ H' s'
section
variable {X : Cx}
theorem lc_outs {pins : List (Addr × Obj)} {s : Shared} {σ : L2.St} {H : Hp} {Q : VK} {elt tg iter : Expr} {ifs : List Expr} {scope : Scope} {own : List (Str × Nat)} {pos pos' : Pos} {wi : TI} {gt : TG} {tt : TT} {te : TE}
    (hc : X.calm = true) (hN : X.N.Nodup) (I : Inv X pins σ H s) (hi : PI X tg iter wi) (ok : BlkOk X.N X.env.scope scope own)
    (hg : ∀ (s : Shared) (H : Hp) (C : Addr) (cl : List (Str × Addr)) (fp : List Addr), PG (X.blk s H scope (compEnvC scope cl C X.env) fp) tg gt)
    (ht : ∀ (s : Shared) (H : Hp) (C : Addr) (cl : List (Str × Addr)) (fp : List Addr), Outs X (X.blk s H scope (compEnvC scope cl C X.env) fp) σ → PTs (X.blk s H scope (compEnvC scope cl C X.env) fp) ifs (fun σ2 H2 Q => wipe σ2 (own.map (·.2)) = wipe σ (own.map (·.2)) ∧ tt σ2 H2 Q))
    (he : ∀ (s : Shared) (H : Hp) (C : Addr) (cl : List (Str × Addr)) (fp : List Addr), PE (X.blk s H scope (compEnvC scope cl C X.env) fp) elt te) (hs : ∀ x, foldedSetIterable iter X.env x = pure x)
    (h : tLc wi gt tt te (own.map (·.2)) σ H Q) :
    wpAny (model X.prog X.w) X.A (comprehension (.ListComp elt [⟨tg, iter, ifs, 0⟩] scope pos) scope X.env pos' (newList []) false (eval iter X.env) none) (EP X pins σ Q) X.xe s := by
  have hRR : ∀ D C s' m H', Inv X pins σ H' s' → Q (.ref D) H' → s'.heap.Ns C m → FpOk X pins H' C → compPost (model X.prog X.w) X.A X.xe none (EP X pins σ Q) (.ref D) C (.ok .next) s' := fun D C s' m H' I' q hn f => ⟨m, hn, fun h'' sb => by
    obtain ⟨f0, f1, f2, f3, f4, f5⟩ := f
    exact ⟨.ref D, H', I'.turned (t' := s'.toks) (fun b o hb e => (sb.2 b hb).trans e) f0 f1 f3 f4 f5, rfl, q⟩⟩
  have hfree : ∀ y ∈ scope.names, y.2 = .free → ∃ c, X.env.cells.lookup y.1 = some c := fun y hy e => by
    rcases ok.free y hy e with k | k
    · exact I.ok.has _ (.inl k)
    · exact I.ok.has _ (.inr k)
  refine wpAny_comprehension_free (use := none) rfl hs (closure_ok hfree) ok.kind (fun y hy e => by rw [ok.uniq y hy, e]) (thn (hi.run pins s σ H _ I h) fun xv s1 hx => thn hx fun itv s2 h2 => ?_)
  obtain ⟨it, fp, tn, J, H2, e, I2, T, st2, f2, q⟩ := h2
  subst e
  refine wpAny_newObj_type (newEnv_comp ?_) (by show 0 ≤ sizeLine; decide)
  generalize hD : s2.heap.objs.size = D
  have hDn : H2 D = none := I2.hok.fresh (Nat.le_of_eq hD)
  obtain ⟨Wm, ⟨m0, w0⟩, turn⟩ := q D hDn
  generalize hs3 : ({ s2 with heap := s2.heap.push { cls := .type "list", data := .seq ([] : List Value).toArray } } : Shared) = s3
  have I3 : Inv X pins σ (upd H2 D (.lst [])) s3 := by
    rw [← hs3]
    refine I2.laid (t' := s2.toks) (fun b o e => Heap.get?_push_of_some _ e) (Nat.le_of_eq hD) ⟨Nat.zero_le _, [], 0, .nil, ?_⟩
    rw [← hD]
    exact Heap.get?_push_size _ rfl
  have h3 : s3.heap = s2.heap.push { cls := .type "list", data := .seq ([] : List Value).toArray } := by rw [← hs3]
  have sz : ∀ b ∈ fp, b < s2.heap.objs.size := fun b hb => by
    obtain ⟨o, e, _⟩ := T.obj _ _ st2 b hb
    exact Heap.lt_size e
  have f3 : ∀ b ∈ fp, FpOk X pins (upd H2 D (.lst [])) b ∧ b < s3.heap.objs.size := fun b hb => by
    have hlt := sz b hb
    refine ⟨⟨?_, (f2 b hb).2⟩, by rw [h3, Heap.size_push]; exact Nat.lt_succ_of_lt hlt⟩
    rw [upd_ne (by rw [← hD]; exact Nat.ne_of_lt hlt)]
    exact (f2 b hb).1
  have st3 : tn 0 s3.heap := T.keep _ _ _ st2 fun b _ o e => by rw [h3]; exact Heap.get?_push_of_some _ e
  have I4 := block_start I3 ok hN f3
  -- the def's own frame, from any state within the block
  have out : ∀ ce : Env, Outs X (X.blk s3 (upd H2 D (.lst [])) scope ce fp) σ := fun ce pins' σ' H' s' I' => ⟨pins, I3.call' (ch := fp) I'.os I'.base I'.hok I'.bare fun b hb => ⟨(f3 b hb).1.2.2.2.1, (f3 b hb).1.2.1, (f3 b hb).1.2.2.2.2.1, (f3 b hb).1.2.2.2.2.2⟩⟩
  have pg := hg s3 (upd H2 D (.lst [])) s3.heap.objs.size (cellsFrom (s3.heap.objs.size + 1) scope.names (cloFrom X.env.cells scope.names [])) fp
  have pt := ht s3 (upd H2 D (.lst [])) s3.heap.objs.size (cellsFrom (s3.heap.objs.size + 1) scope.names (cloFrom X.env.cells scope.names [])) fp (out _)
  have pe := he s3 (upd H2 D (.lst [])) s3.heap.objs.size (cellsFrom (s3.heap.objs.size + 1) scope.names (cloFrom X.env.cells scope.names [])) fp
  show codeAny _ _ (.compStart (.ListComp elt [⟨tg, iter, ifs, 0⟩] scope pos) 0 (.ref it) (.ref D) (compEnvC scope (cellsFrom (s3.heap.objs.size + 1) scope.names (cloFrom X.env.cells scope.names [])) s3.heap.objs.size X.env)) (compPost (model X.prog X.w) X.A X.xe none (EP X pins σ Q) (.ref D) s3.heap.objs.size) { s3 with heap := pushCells (s3.heap.push { cls := .type "dict", data := .dict #[] }) scope.names }
  have nfp : ∀ b ∈ fp, (upd H2 D (.lst [])) b = none := fun b hb => (f3 b hb).1.1
  generalize hce : compEnvC scope (cellsFrom (s3.heap.objs.size + 1) scope.names (cloFrom X.env.cells scope.names [])) s3.heap.objs.size X.env = ce at I4 pg pt pe ⊢
  have cL : ce.locals = s3.heap.objs.size := by subst hce; rfl
  have out := out ce
  generalize hH3 : upd H2 D (.lst []) = H3 at I3 I4 pg pt pe w0 nfp f3 out
  generalize hs4 : ({ s3 with heap := pushCells (s3.heap.push { cls := .type "dict", data := .dict #[] }) scope.names } : Shared) = s4 at I4 ⊢
  have st4 : tn 0 s4.heap := T.keep _ _ _ st3 fun b _ o e => by rw [← hs4]; exact pushCells_keeps _ _ _ _ (Heap.get?_push_of_some _ e)
  have stat : ∀ {σ' : L2.St} {H' : Hp} {s' : Shared}, Inv (X.blk s3 H3 scope ce fp) [] σ' H' s' → (∀ b ∈ fp, H' b = none) → ∀ b ∈ fp, FpOk (X.blk s3 H3 scope ce fp) [] H' b := fun {σ' H' s'} I' hn b hb =>
    ⟨hn b hb, (I'.ok.exf b hb).1, I'.ok.exfs b hb, .inl hb, fun x c e => (I'.ok.exf b hb).2 x c e, fun p hp => absurd (show p ∈ ([] : List (Addr × Obj)) ++ [] from hp) (by simp)⟩
  have loop : codeAny (model X.prog X.w) X.A (.compLoop (.ListComp elt [⟨tg, iter, ifs, 0⟩] scope pos) 0 (.ref it) (.ref D) ce) (compPost (model X.prog X.w) X.A X.xe none (EP X pins σ Q) (.ref D) s3.heap.objs.size) s4 := by
    refine compLoop_any (fun n s' => ∃ i H', Inv (X.blk s3 H3 scope ce fp) [] (wipe σ (own.map (·.2))) H' s' ∧ tn i s'.heap ∧ (∀ b ∈ fp, H' b = none) ∧ Wm i n H') ?_ m0 ⟨0, H3, I4, st4, nfp, w0⟩
    rintro n s5 ⟨i, H5, I5, st5, n5, w5⟩
    rcases turn i n H5 w5 with ⟨stop, qq⟩ | ⟨go, Nx, hNx, step⟩
    · refine thnF (T.done (X.blk s3 H3 scope ce fp) rfl rfl rfl hc i [] s5 _ H5 (fun _ _ => False) I5 (stat I5 n5) st5 stop) fun r s6 ⟨hr, I6⟩ => ?_
      subst hr
      have I7 : Inv X pins σ H5 s6 := I3.call' (ch := fp) I6.os I6.base I6.hok I6.bare fun b hb => ⟨(f3 b hb).1.2.2.2.1, (f3 b hb).1.2.1, (f3 b hb).1.2.2.2.2.1, (f3 b hb).1.2.2.2.2.2⟩
      have nC : H5 s3.heap.objs.size = none := by
        have z : H5 ce.locals = none := I6.free
        rw [cL] at z
        exact z
      obtain ⟨m, hn, _⟩ := I6.loc
      have hn : s6.heap.Ns ce.locals m := hn
      rw [cL] at hn
      exact hRR D s3.heap.objs.size s6 m H5 I7 qq hn (I3.fpOk (Nat.le_refl _) nC)
    · refine thnF (T.item (X.blk s3 H3 scope ce fp) rfl rfl rfl hc i [] s5 _ H5 (fun _ _ => False) I5 (stat I5 n5) st5 go) fun r s6 ⟨u, hr, h6⟩ => ?_
      subst hr
      refine thnF h6 fun _ s7 ⟨x, H7, I7, r7, y7, st7, n7⟩ => ?_
      have I7' := I7.pinned (stat I7 n7) (T.obj _ _ st7)
      refine thnF (pg.run _ s7 _ H7 x u _ I7' r7 (step x H7 y7)) fun _ s8 ⟨σ8, H8, I8, hw8, q8⟩ => ?_
      refine thnF (pt.run _ s8 σ8 H8 _ I8 ⟨hw8, q8⟩) fun b s9 ⟨H9, I9, q9⟩ => ?_
      have fin : ∀ {s' : Shared} {H' : Hp}, Inv (X.blk s3 H3 scope ce fp) ([] ++ pinsAt fp s7.heap) σ8 H' s' → Nx H' → ∃ m, m < n ∧ ∃ i H', Inv (X.blk s3 H3 scope ce fp) [] (wipe σ (own.map (·.2))) H' s' ∧ tn i s'.heap ∧ (∀ b ∈ fp, H' b = none) ∧ Wm i m H' := fun {s' H'} I' nx => by
        obtain ⟨m', hm, w'⟩ := hNx H' nx
        have pin' : ∀ b ∈ fp, ∀ o, s7.heap.get? b = some o → s'.heap.get? b = some o ∧ H' b = none := fun b hb o e =>
          let z := I'.pin (b, o) (List.mem_append_right _ (List.mem_append_right _ (mem_pinsAt hb e)))
          ⟨z.1, z.2.1⟩
        have hl : (wipe σ (own.map (·.2))).length = σ8.length := by rw [← hw8, wipe_length]
        refine ⟨m', hm, i + 1, H', (I'.unpinned (pins := [])).weak hl (fun j v e => ?_), T.keep _ _ _ st7 fun b hb o e => (pin' b hb o e).1, fun b hb => ?_, w'⟩
        · rw [← hw8] at e
          exact (wipe_some e).1
        · obtain ⟨o, e, _⟩ := T.obj _ _ st7 b hb
          exact (pin' b hb o e).2
      cases b with
      | false =>
        simp only [Bool.false_eq_true, if_false] at q9 ⊢
        exact fin I9 q9
      | true =>
        simp only [if_true] at q9 ⊢
        refine thnF (pe.run _ s9 σ8 H9 _ I9 q9) fun z s10 ⟨yv, H10, I10, r10, acc, hD10, hz10, nx⟩ => ?_
        exact app_ok (X := X.blk s3 H3 scope ce fp) I10 hD10 hz10 r10 fun s11 I11 => fin I11 nx
  exact codeAny_compStart_list loop (T.self X.A 0 _ _ _ st4 loop)
theorem pe_lcO {elt tg iter : Expr} {ifs : List Expr} {scope : Scope} {own : List (Str × Nat)} {pos : Pos} {wi : TI} {gt : TG} {tt : TT} {te : TE} (hc : X.calm = true) (hN : X.N.Nodup) (hi : PI X tg iter wi) (ok : BlkOk X.N X.env.scope scope own)
    (hg : ∀ (s : Shared) (H : Hp) (C : Addr) (cl : List (Str × Addr)) (fp : List Addr), PG (X.blk s H scope (compEnvC scope cl C X.env) fp) tg gt)
    (ht : ∀ (σ : L2.St) (s : Shared) (H : Hp) (C : Addr) (cl : List (Str × Addr)) (fp : List Addr), Outs X (X.blk s H scope (compEnvC scope cl C X.env) fp) σ → PTs (X.blk s H scope (compEnvC scope cl C X.env) fp) ifs (fun σ2 H2 Q => wipe σ2 (own.map (·.2)) = wipe σ (own.map (·.2)) ∧ tt σ2 H2 Q))
    (he : ∀ (s : Shared) (H : Hp) (C : Addr) (cl : List (Str × Addr)) (fp : List Addr), PE (X.blk s H scope (compEnvC scope cl C X.env) fp) elt te) (hs : ∀ x, foldedSetIterable iter X.env x = pure x := by intro _; rfl) :
    PE X (.ListComp elt [⟨tg, iter, ifs, 0⟩] scope pos) (tLc wi gt tt te (own.map (·.2))) := by
  refine ⟨fun pins s σ H Q I h => ?_⟩
  rw [eval_ListComp]
  exact lc_outs hc hN I hi ok hg (ht σ) he hs h
end
end Mi

set_option Elab.async false
set_option linter.all false
set_option maxRecDepth 100000
set_option maxHeartbeats 4000000
namespace Mi
open PySem PySem.Spec PyProof.Rows L2 LamX
/-! ### lambdas that capture names, kept in a list, called later by the def that tells their end -/
def LamC (f : Addr) (q : Str) (params : Arguments) (body : Expr) (scope : Scope) (c : Addr) (cl : List (Str × Addr)) : HO := .ext fun h => ∃ (pm ctv : Value), h.get? f = some (PySem.W.kla_obj "<lambda>" q params body scope cl pm c ctv)
/-- the n-th lambda of the frame X means fbs[n] -/
def lamQ (g : Gb) (k' : Nat) (fbs : List (Cb D)) (X : Cx) : Nat → Addr → Addr → Str → HO → Prop := fun n f c q o => q = X.env.qual ++ "<lambda>" ∧ ∃ params body scope fb, fbs[n]? = some fb ∧ o = LamC f q params body scope c (cloFrom X.env.cells scope.names []) ∧ lamSB X.env.scope scope = true ∧
  (∀ (q : Str) (cl : List (Str × Addr)) (pm cv ctv : Value), bindArgs (PySem.W.kla_fn "<lambda>" q params body scope cl pm cv ctv) ⟨[], []⟩ = pure []) ∧
  ∀ (Λ : Lr) (A : Around) (outer : List Env) (s : Shared) (H : Hp) (E : XK) (f c' : Addr), DE g k' Λ (lamCx X A outer s H E scope f c') (fW E) body fb
/-- the test of a comprehension: told(f) != z, f a lambda of the def's frame -/
def tcB (own : List Nat) (fi : Nat) (ret en : Str) (fbs : List (Cb D)) (z : Str) : Cb Bool := fun ρ μ => match ρ[fi]? with
  | some (some (.lam n)) => (match fbs[n]? with
    | some fb => ob (bTold ret en fb (wipeD ρ own) μ) fun d μ1 => (match dNe μ1 d (.str z) with
      | some (.bl b) => some (.ok b μ1)
      | _ => none)
    | none => none)
  | _ => none
section
variable {g : Gb} {k j k' : Nat} {Λ : Lr} {X : Cx} {W : WX} {fb ff fe : Cb D} {x en ret a q z : Str} {st : Stmt} {ga ca cc PP : Addr} {fd : FuncData} {Ng : List Str} {p1 p2 p3 p4 p5 p6 p7 p8 p pf pz cpos pos lpos : Pos} {jj jz : Nat} {params : Arguments} {body : Expr} {scope sc2 : Scope}
theorem lam_trackC {pins : List (Addr × Obj)} {σ : L2.St} {H : Hp} {s : Shared} {E Q : Value → Shared → Prop} (I : Inv X pins σ H s) (TB : TabB X.base X.mg cc PP) (hcode : X.env.code = .ref cc) {T : List (Addr × Str)}
    (hm : (PP, X.env.qual ++ "<lambda>") ∈ T) (hu : ∀ p ∈ T, p.1 = PP → p.2 = X.env.qual ++ "<lambda>") (hT : Tabs T H) (hdef : defaultsOf params X.env = ([], [])) (L : LamS X.env.scope scope)
    (h : ∀ (f c' : Addr) (H1 : Hp) (s' : Shared), Inv X pins σ H1 s' → ExtN H H1 → Tabs T H1 → H1 f = some (LamC f (X.env.qual ++ "<lambda>") params body scope c' (cloFrom X.env.cells scope.names [])) → H f = none → H c' = none ∨ H c' = some (CodeO c' (X.env.qual ++ "<lambda>")) → H1 c' = some (CodeO c' (X.env.qual ++ "<lambda>")) → Q (.ref f) s') :
    wpAny (model X.prog X.w) X.A (eval (.Lambda params body scope pos) X.env) Q E s := by
  obtain ⟨ps, hP, ht, ha⟩ := hT _ hm
  refine PySem.W.kla_eval hdef ?_
  have hcl := closure_ok (env := X.env) (L.has I.ok)
  have bP : s.heap.BuiltinsAt X.mg PP := TB.bm.keeps I.bk
  have hP' : s.heap.get? PP = some { cls := .none, data := .fields ps } := I.hok PP _ hP
  have lo : ∀ {f c' : Addr} {pm ctv : Value} {h2 : Heap}, h2.get? f = some (PySem.W.kla_obj "<lambda>" (X.env.qual ++ "<lambda>") params body scope (cloFrom X.env.cells scope.names []) pm c' ctv) → ∀ H2 : Hp, ObjOk X.prog X.w H2 h2 f (LamC f (X.env.qual ++ "<lambda>") params body scope c' (cloFrom X.env.cells scope.names [])) :=
    fun {f c' pm ctv h2} e H2 => ⟨⟨pm, ctv, e⟩, ⟨_, e⟩, fun h3 h4 ⟨pm, ctv, q⟩ st => ⟨pm, ctv, st _ q⟩⟩
  cases hc : codeAmong pos ps.toList with
  | some cv =>
    obtain ⟨c', e, hco⟩ := ha pos cv hc
    subst e
    refine PySem.W.kla_makeFunctionHit (mg := X.mg) (c := cc) (P := PP) (ps := ps) hcl I.ok.glob (I.mod.glob.keeps I.bk) hcode (TB.code.keeps I.bk) hP' ht hc bP fun ctv h' tk hx hsz => ?_
    have hn : H h'.objs.size = none := I.hok.fresh hsz
    have ge := Heap.get?_push_size h' (o := PySem.W.kla_obj "<lambda>" (X.env.qual ++ "<lambda>") params body scope (cloFrom X.env.cells scope.names []) ((X.mg "__name__").getD .none) c' ctv) rfl
    have I1 := I.laid (t' := tk) (fun b o e => Heap.get?_push_of_some _ (hx b o e)) hsz (lo ge _)
    have sm : Sam H (upd H h'.objs.size (LamC h'.objs.size (X.env.qual ++ "<lambda>") params body scope c' (cloFrom X.env.cells scope.names []))) := sam_upd hn
    exact h h'.objs.size c' _ _ I1 (ExtN.of sm) (hT.ext sm) upd_same hn (.inr hco) (sm _ _ hco)
  | none =>
    refine PySem.W.kla_makeFunction (mg := X.mg) (c := cc) (P := PP) (ps := ps) hcl I.ok.glob (I.mod.glob.keeps I.bk) hcode (TB.code.keeps I.bk) hP' ht hc TB.gP bP fun c' ctv h' tk hx hge hlt hrec htb => ?_
    obtain ⟨c2, oc, vs, t, e2, hoc, hd, hv⟩ := hrec
    cases e2
    have hsz : s.heap.objs.size ≤ h'.objs.size := Nat.le_trans hge (Nat.le_of_lt hlt)
    have nC : H c' = none := I.hok.fresh hge
    have nF : H h'.objs.size = none := I.hok.fresh hsz
    have I1 := inv_table (t' := tk) (more := #[rawInt pos.line, rawInt pos.col, .ref c']) (h' := h') (q := X.env.qual ++ "<lambda>") I hP hx htb hge ⟨oc, vs, t, hoc, hd, hv⟩
    generalize hH1 : upd (upd H PP (.tbl (ps ++ #[rawInt pos.line, rawInt pos.col, .ref c']))) c' (CodeO c' (X.env.qual ++ "<lambda>")) = H1 at I1
    have hE : ExtN H H1 := fun b o e n => by
      rw [← hH1, upd_ne (ne_of_none e nC), upd_ne (fun z => n ps (Option.some.inj (e.symm.trans (by rw [z]; exact hP))))]
      exact e
    have eL : (ps ++ #[rawInt pos.line, rawInt pos.col, .ref c']).toList = ps.toList ++ [rawInt pos.line, rawInt pos.col, .ref c'] := by simp
    have hc1 : H1 c' = some (CodeO c' (X.env.qual ++ "<lambda>")) := by rw [← hH1, upd_same]
    have T1 : Tabs T H1 := fun p hp => by
      by_cases hb : p.1 = PP
      · rw [hu p hp hb, hb]
        refine ⟨_, by rw [← hH1, upd_ne (ne_of_none hP nC), upd_same], by rw [eL]; exact PySem.TriplesOk_snoc _ _ _ _ ht, fun p' cv hcv => ?_⟩
        rw [eL] at hcv
        rcases among_app _ ht hcv with z | z
        · obtain ⟨c0, e1, e2⟩ := ha p' cv z
          exact ⟨c0, e1, hE _ _ e2 codeO_ne⟩
        · exact ⟨c', z, hc1⟩
      · obtain ⟨ps', a1, a2, a3⟩ := hT p hp
        refine ⟨ps', by rw [← hH1, upd_ne (ne_of_none a1 nC), upd_ne hb]; exact a1, a2, fun p' cv hcv => ?_⟩
        obtain ⟨c0, e1, e2⟩ := a3 p' cv hcv
        exact ⟨c0, e1, hE _ _ e2 codeO_ne⟩
    have n1 : H1 h'.objs.size = none := by
      have q1 : h'.objs.size ≠ c' := Nat.ne_of_gt hlt
      have q2 : h'.objs.size ≠ PP := Nat.ne_of_gt (Nat.lt_of_lt_of_le (Heap.lt_size hP') hsz)
      rw [← hH1, upd_ne q1, upd_ne q2]
      exact nF
    have ge := Heap.get?_push_size h' (o := PySem.W.kla_obj "<lambda>" (X.env.qual ++ "<lambda>") params body scope (cloFrom X.env.cells scope.names []) ((X.mg "__name__").getD .none) c' ctv) rfl
    have I2 := I1.laid (t' := tk) (h' := h'.push (PySem.W.kla_obj "<lambda>" (X.env.qual ++ "<lambda>") params body scope (cloFrom X.env.cells scope.names []) ((X.mg "__name__").getD .none) c' ctv)) (fun b o e => Heap.get?_push_of_some _ e) (Nat.le_refl _) (lo ge _)
    have sm : Sam H1 (upd H1 h'.objs.size (LamC h'.objs.size (X.env.qual ++ "<lambda>") params body scope c' (cloFrom X.env.cells scope.names []))) := sam_upd n1
    exact h h'.objs.size c' _ _ I2 (hE.trans (ExtN.of sm)) (T1.ext sm) upd_same nF (.inl nC) (sm _ _ hc1)
theorem de_lamQ (n : Nat) {fbs : List (Cb D)} (TB : TabB g.base g.mg cc PP) (hmT : (PP, X.env.qual ++ "<lambda>") ∈ g.T) (hu : ∀ p ∈ g.T, p.1 = PP → p.2 = X.env.qual ++ "<lambda>") (hΛ : Λ.lam = lamQ g k' fbs X) (hn : fbs[n]? = some fb) (hs : lamSB X.env.scope scope = true)
    (hbody : ∀ (Λ : Lr) (A : Around) (outer : List Env) (s : Shared) (H : Hp) (E : XK) (f c' : Addr), DE g k' Λ (lamCx X A outer s H E scope f c') (fW E) body fb)
    (hcode : X.env.code = .ref cc := by rfl) (hdef : defaultsOf params X.env = ([], []) := by rfl)
    (hbind : ∀ (q : Str) (cl : List (Str × Addr)) (pm cv ctv : Value), bindArgs (PySem.W.kla_fn "<lambda>" q params body scope cl pm cv ctv) ⟨[], []⟩ = pure [] := by intros; rfl) : DE g k Λ X W (.Lambda params body scope pos) (bCon (.lam n)) := fun ok tk => by
  refine ⟨fun pins s σ H Q I ⟨ι, ρ, μ, r, l, m, e, p⟩ => ?_⟩
  cases e
  refine lam_trackC I (by rw [ok.base, ok.mg]; exact TB) hcode hmT hu m.tabs hdef (lamS_by hs) fun f c' H1 s' I1 eN T1 hf hfn hc0 hc1 => ?_
  have x1 : Ext ι H ι H1 := ext_of_n eN
  have fr := m.fresh hfn
  have frc : c' ∉ ι := by
    rcases hc0 with z | z
    · exact (m.fresh z).1
    · intro hm
      unfold CodeO at z
      rcases m.mem hm with ⟨_, q⟩ | ⟨_, q⟩ | ⟨_, _, _, q⟩ <;> rw [z] at q <;> cases q
  exact ⟨.ref f, H1, I1, rfl, p ι H1 (.ref f) x1 (m.ofN eN T1) ⟨f, c', _, _, rfl, hf, (by intro ps z; unfold LamC at z; cases z), fr, hc1, frc, by rw [hΛ]; exact ⟨rfl, params, body, scope, fb, hn, rfl, hs, hbind, hbody⟩⟩⟩
theorem pe_actC {pins : List (Addr × Obj)} {σ : L2.St} {H : Hp} {s : Shared} {sg : Scope} {f c' : Addr} {cdg : Value} {i : Nat} {pn : List (Addr × Obj)} {xe : Value → Shared → Prop} {WW : WX} {E : XK} {tb : TE}
    (I : Inv X pins σ H s) (e0' : Env0 X.prog X.w X.K X.mg X.base X.A X.stack s H) (L : LamS X.env.scope scope) (hq : X.env.qual ++ "<lambda>" = q)
    (hbind : ∀ (q : Str) (cl : List (Str × Addr)) (pm cv ctv : Value), bindArgs (PySem.W.kla_fn "<lambda>" q params body scope cl pm cv ctv) ⟨[], []⟩ = pure [])
    (tk : Takes ((cxOf C8.CX0 X.prog X.w X.K X.mg X.base Ng x sg ga cdg X.A X.stack s H C8.E0).tr pn xe) WW) (hW : ∀ cls d σ' H', E cls d H' → WW cls d σ' H') (hr : Room (k + 1) (X.A.deeper (PyProof.Rows.envOfC x sg s.heap.objs.size ga cdg)))
    (hbody : ∀ (A : Around) (outer : List Env) (s : Shared) (H : Hp), Room k (A.deeper (lamEnv X scope s.heap.objs.size f c')) → PE (lamCx X A outer s H E scope f c') body tb)
    (hN : Ng[i]? = some a) (hv : Vis sg a) (hd : (a == ("__debug__" : Str)) = false) (hcd : (a == ("__classdict__" : Str)) = false) :
    PE ((cxOf C8.CX0 X.prog X.w X.K X.mg X.base Ng x sg ga cdg X.A X.stack s H C8.E0).tr pn xe) (.Call (.Name a p1) [] [] p2)
      (fun σZ HZ Q => σZ[i]? = some (some (.ref f)) ∧ HZ c' = some (CodeO c' q) ∧ HZ f = some (LamC f q params body scope c' (cloFrom X.env.cells scope.names [])) ∧ tb σ HZ Q) := by
  subst hq
  refine ⟨fun pinsZ sZ σZ HZ Q IZ ⟨h1, hc, hl, ht⟩ => ?_⟩
  refine wpAny_Call_Name_kw (thn ((pe_var (pos := p1) (i := i) hN hv hd hcd).run pinsZ sZ σZ HZ (fun v H1 => v = .ref f ∧ H1 = HZ) IZ ⟨.ref f, h1, rfl, rfl⟩) fun u s1 ⟨v, H1, I1, r1, ev, eH⟩ => ?_)
  subst ev
  rw [eH] at I1
  obtain rfl : u = Value.ref f := r1
  obtain ⟨⟨pm, ctv, of1⟩, _, _⟩ := I1.hok f _ hl
  refine PySem.W.callWith_F0 ⟨_, _, _, _, of1⟩ ?_
  have un : Un (frs X.stack) [] H HZ s.heap s1.heap := I1.base
  obtain ⟨⟨oc, vs, t, hoc, hdc, hvc⟩, _, _⟩ := I1.hok c' _ hc
  have rc : codeAny (model X.prog X.w) (X.A.deeper (PyProof.Rows.envOfC x sg s.heap.objs.size ga cdg)) (.call (.ref f) ⟨[], []⟩) (CR (L2.CX X.prog X.w) (PyProof.Rows.envOfC x sg s.heap.objs.size ga cdg :: X.stack) X.prog X.w HZ s1 Q E) s1 := by
    refine PySem.W.kla_callFunE hr.depth of1 rfl L.co L.gen rfl ⟨c', oc, vs, t, rfl, hoc, hdc, hvc⟩ ?_
    rw [hbind]
    refine wpAny_pure (wpAny_newFunctionEnv (fun y hy => (L.own y hy).2) (fun y hy => absurd hy (by simp)) (fun h₁ hns hsb => ⟨I1.nolimit.fresh _ hsb, ?_⟩) L.kind)
    show codeAny _ _ (.expr body (lamEnv X scope s1.heap.objs.size f c')) _ _
    have kp : ∀ b o, s1.heap.get? b = some o → h₁.get? b = some o := fun b o e => hsb.extBut b o (Nat.ne_of_lt (Heap.lt_size e)) (Heap.get?_push_of_some _ e)
    have J : Inv (lamCx X (X.A.deeper (PyProof.Rows.envOfC x sg s.heap.objs.size ga cdg)) (PyProof.Rows.envOfC x sg s.heap.objs.size ga cdg :: X.stack) s1 HZ E scope f c') [] σ HZ { s1 with heap := h₁, toks := s1.toks + ([] : List (Str × Value)).length } :=
      lam_start2 I L I1.env0 hr.hd un hns kp
    refine PySem.W.kla_codeExpr (wpAny_mono ((hbody _ _ s1 HZ (hr.deeper _)).run [] _ _ HZ Q J ht) (fun v s' hq => ?_) fun e s' hq => hq)
    obtain ⟨w', H', J', rv, q⟩ := hq
    exact ⟨w', H', J'.os, J'.bare, J'.base, J'.hok, rv, q⟩
  have hx : Passes (L2.CX X.prog X.w) ((cxOf C8.CX0 X.prog X.w X.K X.mg X.base Ng x sg ga cdg X.A X.stack s H C8.E0).tr pn xe) E := passes_call tk hW
  refine wpAny_call (codeAny_mono rc fun r s' hq => ?_)
  cases r with
  | error e => exact hx pinsZ σZ HZ s1 e s' I1 hq
  | ok fl =>
    cases fl with
    | ret u => exact I1.after hq
    | next => exact False.elim hq
    | brk => exact False.elim hq
    | cont => exact False.elim hq
theorem LR.unwipe {ι : List Addr} {H : Hp} {σ : L2.St} {ρ : En} {own : List Nat} (l : LR g Λ ι H (L2.wipe σ own) ρ) : LR g Λ ι H σ ρ := ⟨by rw [l.len, L2.wipe_length], fun i d q => by
  obtain ⟨v, h1, h2⟩ := l.at_ i d q
  exact ⟨v, (wipe_some h1).1, h2⟩⟩
/-- what told(f) reads in a block: f's lambda, in the def's own frame σ -/
def tTB (g : Gb) (Λ : Lr) (fi : Nat) (ret en : Str) (fbs : List (Cb D)) (σ : L2.St) : TE := fun σ2 H2 Q => ∃ (n : Nat) (v : V) (ι : List Addr) (ρo : En) (μ : Sto) (fb : Cb D) (r : Out D), σ2[fi]? = some (some v) ∧ Rep g.K Λ ι H2 (.lam n) v ∧ LR g Λ ι H2 σ ρo ∧ MR g Λ ι H2 μ ∧ fbs[n]? = some fb ∧ bTold ret en fb ρo μ = some r ∧ Post g Λ W0 ι H2 σ r Q
theorem pe_toldB {sB : Shared} {HB : Hp} {ceB : Env} {fpB : List Addr} {f : Str} {fi : Nat} {fbs : List (Cb D)} {σ : L2.St} (TF : ToldF g x en ret a st ga ca fd Ng p1 p2 p3 p4 p5 p6 p7 p8 jj) (hΛ : Λ.lam = lamQ g k' fbs X) (hk : k' + 2 ≤ k) (ok : XOk g k X) (okB : XOk g k (X.blk sB HB sc2 ceB fpB))
    (out : Outs X (X.blk sB HB sc2 ceB fpB) σ) (hf : X.N[fi]? = some f) (hv : Vis ceB.scope f) (hd : (f == ("__debug__" : Str)) = false) (hcd : (f == ("__classdict__" : Str)) = false) (hg : Gl (X.blk sB HB sc2 ceB fpB) x) (hdb : (x == ("__debug__" : Str)) = false)
    (hse : starEach [.Name f pf] ceB = (false, eval (.Name f pf) ceB) :: starEach [] ceB) (hpl : (backTo pos (starEach [] ceB)).any (·.1) = false) :
    PE (X.blk sB HB sc2 ceB fpB) (.Call (.Name x p) [.Name f pf] [] pos) (tTB g Λ fi ret en fbs σ) := by
  obtain ⟨oc, od, kV, doc, pm, an, ct, osl, rfl, lk, hcd2⟩ := TF.F.ex
  refine ⟨fun pins s σ2 H Q I ⟨n, v, ι, ρo, μ, fb, r, hvv, hrep, l, m, hn, e5, p⟩ => ?_⟩
  have hm : (X.blk sB HB sc2 ceB fpB).mg x = some (.ref ga) := by show X.mg x = _; rw [ok.mg]; exact TF.mgx
  refine wpAny_Call_Name_kw (ld_glob I hg hm ?_ hdb)
  refine PySem.W.callWith_K (h₀ := X.base) I.ok.mod.kin (by show PySem.W.keepIn X.K _ = _; rw [ok.K]; exact TF.F.kp) ?_ hse hpl
  rw [hse]
  refine Calls.spliced_cons (thn ((pe_var (X := X.blk sB HB sc2 ceB fpB) (pos := pf) (i := fi) hf hv hd hcd).run pins s σ2 H (fun v' H1 => v' = v ∧ H1 = H) I ⟨v, hvv, rfl, rfl⟩) fun u s' ⟨v', H1, I1, r1, ev, eH⟩ => ?_)
  subst ev
  rw [eH] at I1
  obtain ⟨f', c', q', o, e4, hf', nt, fr, hc, frc, hΛ2⟩ := hrep
  rw [hΛ] at hΛ2
  obtain ⟨e6, params, body, scope, fb', hn', e7, hs, hbind, hbody⟩ := hΛ2
  rw [hn] at hn'
  cases hn'
  subst e6 e7 e4
  obtain rfl : u = Value.ref f' := r1
  refine Calls.spliced_nil ⟨I1.kIn, ?_⟩
  obtain ⟨pinsO, IO⟩ := out _ _ _ _ I1
  have hG : GivesTo X Ng x (defScope st) ga (.ref ca) (defBody st) a (X.env.qual ++ "<lambda>") (TTold X.K (g.cls en) ret) := by
    rw [TF.body]
    refine told_gives TF.hge (by rw [ok.mg]; exact TF.mge) TF.hde fun f => ?_
    have := TF.n0
    cases Ng with
    | nil => cases this
    | cons n ns => rfl
  have rc : codeAny (model X.prog X.w) X.A (.call (.ref ga) ⟨[.ref f'], []⟩) (CR C8.CX0 X.stack X.prog X.w H s' Q C8.E0) s' := by
    refine run_ofS (N := Ng) (ps := [a]) (us := [.ref f']) (vs := [.ref f']) (by rw [ok.K]; exact lk) (by rw [ok.K]; exact hcd2) TF.S (ok.room.mono hk) IO.env0 ((show Binds X.K _ [a] [] by rw [ok.K]; exact TF.hb) s' [.ref f'] I1.kIn rfl) (.cons rfl .nil) rfl fun hr' => ?_
    have hT : TTold X.K (g.cls en) ret (fun E H' Q' => H' f' = some (LamC f' (X.env.qual ++ "<lambda>") params body scope c' (cloFrom X.env.cells scope.names [])) ∧ rdE g Λ (fW E) fb σ H' Q') H Q := by
      refine ⟨hf', ?_⟩
      rw [ok.K]
      exact told_rd (W := W0) rfl TF.exm l m e5 p
    obtain ⟨t', ht', hq'⟩ := hG f' c' s' H Q (fun E H' Q' => H' f' = some (LamC f' (X.env.qual ++ "<lambda>") params body scope c' (cloFrom X.env.cells scope.names [])) ∧ rdE g Λ (fW E) fb σ H' Q')
      (fun WW pn xe E p1 p2 tk hW => pe_actC (i := 0) IO IO.env0 (lamS_by hs) rfl hbind tk hW hr' (fun A outer s H hr2 => hbody Λ A outer s H E f' c' (ok.lam hr2) (takes_of rfl rfl rfl rfl)) TF.n0 TF.va TF.hd TF.hcd) hc hT
    exact ⟨t', ht'.nox, hq'⟩
  refine wpAny_call (codeAny_mono rc fun r s2 hq => ?_)
  cases r with
  | error e => exact (show False from hq).elim
  | ok fl =>
    cases fl with
    | ret u => exact I1.after hq
    | next => exact False.elim hq
    | brk => exact False.elim hq
    | cont => exact False.elim hq
end
end Mi

set_option Elab.async false
set_option linter.all false
set_option maxRecDepth 100000
set_option maxHeartbeats 4000000
/-! ### enumerate of a tuple -/
namespace Mi
open PySem PySem.Spec
open Sem (wp)
open AutoSeq1 (wpAny_loadPart')
theorem meets_enumT (l : Addr) (items : Array Value) (n : Nat) (dct : Option Addr) (sl : Array (Option Value)) :
    Meets (Builtin.«enumerate.__new__» ⟨[.type "enumerate", .ref l], []⟩) (fun _ R s => s.heap.get? l = some { cls := .type "tuple", dict := dct, data := .seq items n, slots := sl } ∧
      R (.ok (.ret (.ref (s.heap.push { cls := .type "tuple_iterator", data := .fields #[.ref l, .int 0 0] }).objs.size)))
        { s with heap := (s.heap.push { cls := .type "tuple_iterator", data := .fields #[.ref l, .int 0 0] }).push { cls := .type "enumerate", data := .fields #[.none, .bool false, .ref s.heap.objs.size, rawInt 0, .none, .none] } }) :=
  .of_wp fun prog w A R s h => by
    obtain ⟨hp, g, d, tk, os⟩ := s; obtain ⟨hl, h⟩ := h
    have hsub := sub_enumerate
    have hL : Heap.IsTuple (Shared.heap ⟨hp, g, d, tk, os⟩) l items := ⟨_, hl, rfl, n, rfl⟩
    wp_walk using wpAny_loadPart' hl
    refine wpAny_stack_any fun st => wpAny_pure ?_
    split
    · rename_i c _ _ _ _ _
      cases (c == Value.type "enumerate")
      · wp_walk using wpAny_loadPart' hl, wpAny_pyIter_tuple hL
        exact ⟨_, rfl, h⟩
      · wp_walk using wpAny_loadPart' hl, wpAny_pyIter_tuple hL
        exact ⟨_, rfl, h⟩
    · wp_walk using wpAny_loadPart' hl, wpAny_pyIter_tuple hL
      exact ⟨_, rfl, h⟩
section
variable {prog : Program} {w : World} {A : Around} {E : Value → Shared → Prop} {s : Shared}
theorem call_enumT {l : Addr} {items : Array Value} {Q : Value → Shared → Prop} (hL : s.heap.IsTuple l items)
    (h : ∀ h', IsEnum h' (s.heap.objs.size + 1) s.heap.objs.size 0 .none → h'.IsTupleIter s.heap.objs.size l 0 → h'.objs.size = s.heap.objs.size + 2 →
      (∀ b o, s.heap.get? b = some o → h'.get? b = some o) → Q (.ref (s.heap.objs.size + 1)) { s with heap := h' }) :
    wpAny (model prog w) A (call (.type "enumerate") [.ref l]) Q E s := by
  obtain ⟨⟨c, dct, dt, sl⟩, hl, hc, n, hd⟩ := hL
  replace hc : c = .type "tuple" := hc
  replace hd : dt = .seq items n := hd
  subst hc hd
  refine callType_new F.called_enumerate (by decide) (F.typeCall_enumerate_1 _) (F.newCall_enumerate_1 _) (fun obj => F.args_object_init_2 obj _) F.entry_enumerate_new (meets_enumT l items n dct sl) ⟨hl, ?_⟩
  have hz : (s.heap.push { cls := .type "tuple_iterator", data := .fields #[.ref l, .int 0 0] }).objs.size = s.heap.objs.size + 1 := Heap.size_push ..
  show _ ∧ _
  rw [hz]
  have he : IsEnum ((s.heap.push { cls := .type "tuple_iterator", data := .fields #[.ref l, .int 0 0] }).push { cls := .type "enumerate", data := .fields #[.none, .bool false, .ref s.heap.objs.size, rawInt 0, .none, .none] }) (s.heap.objs.size + 1) s.heap.objs.size 0 .none := by
    have := Heap.get?_push_size (s.heap.push { cls := .type "tuple_iterator", data := .fields #[.ref l, .int 0 0] }) (o := { cls := .type "enumerate", data := .fields #[.none, .bool false, .ref s.heap.objs.size, rawInt 0, .none, .none] }) rfl
    rw [hz] at this; exact this
  refine ⟨⟨_, he, rfl⟩, h _ he ⟨_, Heap.get?_push_of_some _ (Heap.get?_push_size _ rfl), rfl, rfl⟩ (by rw [Heap.size_push, hz]) fun b o x => Heap.get?_push_of_some _ (Heap.get?_push_of_some _ x)⟩
end
end Mi
namespace Mi
open PySem PySem.Spec PyProof.Rows L2 LamX
def Itu (K : PySem.W.Frag) (a : Addr) : It :=
  ⟨fun i H => ∃ (xs : List V) (x : V), SqT K H a xs ∧ xs[i]? = some x, fun i H v H' => ∃ T x, v = .ref T ∧ H T = none ∧ H' = upd H T (.tup [.int (i : Nat), x]) ∧ ∀ xs, SqT K H a xs → xs[i]? = some x, fun i H => ∃ xs : List V, SqT K H a xs ∧ xs.length ≤ i⟩
theorem tup_inj {X : Cx} {pins : List (Addr × Obj)} {σ : L2.St} {H : Hp} {s : Shared} {a : Addr} {xs ys : List V} (I : Inv X pins σ H s) (h : SqT X.K H a xs) (h2 : SqT X.K H a ys) : xs = ys := by
  have key : ∀ {xs ys : List V} {us : List Value}, Vals xs us → Vals ys us → xs = ys := fun {xs} => by
    intro ys us r q
    induction r generalizing ys with
    | nil => cases q; rfl
    | cons r1 r2 ih =>
      cases q with
      | cons q1 q2 => rw [RelV.inj r1 q1, ih q2]
  obtain ⟨its, r, ⟨o, ho, hc, n, hd⟩, _⟩ := I.tuple h
  obtain ⟨its2, r2, ⟨o2, ho2, hc2, n2, hd2⟩, _⟩ := I.tuple h2
  rw [ho] at ho2
  cases ho2
  rw [hd] at hd2
  injection hd2 with e1 e2
  have : its = its2 := by simpa using e1
  subst this
  exact key r r2
theorem turn_enumT {P : Program} {w : World} {K : PySem.W.Frag} {elts : List Expr} {kk : Nat} {tpos : Pos} (a e it : Addr) :
    Turn P w K (.Tuple elts kk tpos) (Itu K a) [e, it] e (fun i h => (∃ old, IsEnum h e it ((i : Nat) : Int) old) ∧ h.IsTupleIter it a i ∧ e ≠ it) where
  mem := by simp
  obj := fun i h st b hb => by
    obtain ⟨⟨old, he⟩, ⟨o, ho, hc, hd⟩, _⟩ := st
    have e' : b = e ∨ b = it := by simpa using hb
    rcases e' with z | z
    · rw [z]; exact ⟨_, he, fun v q => nomatch q⟩
    · rw [z]; exact ⟨o, ho, fun v q => by rw [hd] at q; cases q⟩
  keep := fun i h h' st k => let ⟨⟨old, he⟩, hi, hne⟩ := st; ⟨⟨old, k e (by simp) _ he⟩, hi.at fun o q => k it (by simp) o q, hne⟩
  item := by
    intro X hP hw hK hc i pins s σ H E I hf st hg
    subst hP hw hK
    obtain ⟨⟨old, he⟩, hit, hne⟩ := st
    obtain ⟨xs, x, hq, hx⟩ := hg
    obtain ⟨its, rv, p, hz⟩ := I.tuple hq
    obtain ⟨u, hu, ru⟩ := rv.get hx
    have hel : e < s.heap.objs.size := Heap.lt_size he
    have hil : it < s.heap.objs.size := by obtain ⟨_, q, _⟩ := hit; exact Heap.lt_size q
    have pT : s.heap.IsTuple a its.toArray := p
    obtain ⟨oa, hoa, hca, _⟩ := id pT
    have ea : e ≠ a := fun z => by
      rw [z] at he
      have he : s.heap.get? a = some _ := he
      rw [hoa] at he
      cases he
      injection hca with hca
      exact absurd hca (by decide)
    have ia : a ≠ it := fun z => by
      obtain ⟨o2, h2, c2, _⟩ := id hit
      rw [← z, hoa] at h2
      cases h2
      rw [hca] at c2
      injection c2 with c2
      exact absurd c2 (by decide)
    have hlt : i < its.toArray.size := by
      have := (List.getElem?_eq_some_iff.mp hu).1
      simpa using this
    refine wpAny_pyNext_enum_itemD (Draws.tuple (show X.A.in1.handled = none from I.ok.hd hc) it a ia its.toArray) he ⟨hit, pT⟩ hlt hne (by simp [hne, ea]) fun x' h' tk hP ho hit' hT hsz hk => ?_
    have hu2 : x' = u := by
      have hP : its.toArray[i]? = some x' := hP
      rw [List.getElem?_toArray, hu] at hP
      exact (Option.some.inj hP).symm
    subst hu2
    refine ⟨_, rfl, wpAny_letOwnedTupleGo_enum (s := { s with heap := h', toks := tk + 1 }) ho fun h'' he' sb => ?_⟩
    have hT2 : h''.get? s.heap.objs.size = some { cls := .type "tuple", data := .seq #[.int i tk, x'] } := (sb.2 _ (Nat.ne_of_gt hel)).trans hT
    have new : ObjOk X.prog X.w (upd H s.heap.objs.size (.tup [.int (i : Nat), x])) h'' s.heap.objs.size (.tup [.int (i : Nat), x]) :=
      ⟨by show 2 ≤ sizeLine; decide, [.int i tk, x'], .cons ⟨_, rfl⟩ (.cons ru .nil), ⟨_, hT2, rfl, _, rfl⟩⟩
    have I1 : Inv X pins σ (upd H s.heap.objs.size (.tup [.int (i : Nat), x])) { s with heap := h'', toks := tk + 1 } :=
      I.turnedNew (ch := [e, it]) (fun b ob hb q => (sb.2 b (fun z => hb (by simp [z]))).trans (hk b ob (fun z => hb (by simp [z])) (fun z => hb (by simp [z])) q)) hf (Nat.le_refl _) new
    refine ⟨.ref s.heap.objs.size, _, I1, rfl, ⟨_, x, rfl, I.hok.fresh (Nat.le_refl _), rfl, fun ys hy => by rw [tup_inj I hy hq]; exact hx⟩, ⟨⟨x', ?_⟩, hit'.1.at fun o q => (sb.2 it (Ne.symm hne)).trans q, hne⟩, fun b hb => ?_⟩
    · have e1 : ((i + 1 : Nat) : Int) = (i : Int) + 1 := by omega
      rw [e1]; exact he'
    · have hb' : b < s.heap.objs.size := by
        have e' : b = e ∨ b = it := by simpa using hb
        rcases e' with z | z
        · rw [z]; exact hel
        · rw [z]; exact hil
      rw [upd_ne (Nat.ne_of_lt hb')]
      exact (hf b hb).1
  done := by
    intro X hP hw hK hc i pins s σ H E I hf st hg
    subst hP hw hK
    obtain ⟨⟨old, he⟩, hit, hne⟩ := st
    obtain ⟨xs, hq, hx⟩ := hg
    obtain ⟨its, rv, p, hz⟩ := I.tuple hq
    obtain ⟨f0, f1, f2, f3, f4, f5⟩ := hf it (by simp)
    have hl := rv.length
    have pT : s.heap.IsTuple a its.toArray := p
    have hT : s.TypeIs (.ref e) "enumerate" := ⟨_, he, rfl⟩
    unfold pyNext
    refine wpAny_bind (wpAny_attempt (wpAny_callSpecial?_slot (name := Str.ofString "__next__") hT F.slot_enumerate_next (wpAny_call_entry F.slot_enumerate_next hT F.entry_enumerate_next ?_ (F.args_enumerate_next_1 _))))
    show wpAny _ _ (field (.ref e) 2 >>= _) _ _ _
    refine wpAny_bind (wpAny_field he rfl (x := .ref it) rfl ?_)
    refine wpAny_bind (wpAny_nextOf_tuple_end (I.ok.hd hc) hit pT (by rw [Array.getElem?_eq_none]; simp; omega) fun h' x he' hx' => ?_)
    obtain ⟨o, ho, hcx⟩ := hx'
    refine wpAny_bind (wpAny_isInstance (T := "StopIteration") (b := true) ⟨o, ho, hcx⟩ isSubtype_stop ?_)
    exact wpAny_pure ⟨rfl, I.turned (t' := s.toks) (fun b o hb q => he' b o hb q) f0 f1 f3 f4 f5⟩
  self := fun A i s Q E st h => let ⟨⟨_, he⟩, _⟩ := st; wpAny_pyIter_enum he h
def iEnumA (K : PySem.W.Frag) (ta : TA) : TI := fun σ H R => ta σ H fun vs H1 => ∃ a xs, vs = [.ref a] ∧ ((SqL K H1 a xs ∧ R (Ite K a) H1) ∨ (SqT K H1 a xs ∧ R (Itu K a) H1))
theorem pi_enumA {X : Cx} {e : Expr} {ta : TA} {p pos tpos : Pos} {elts : List Expr} {kk : Nat} (hg : Gl X "enumerate") (hm : X.mg "enumerate" = none) (ha : PA X [e] ta) (hs : starEach [e] X.env = [(false, eval e X.env)] := by rfl) :
    PI X (.Tuple elts kk tpos) (.Call (.Name "enumerate" p) [e] [] pos) (iEnumA X.K ta) := by
  refine ⟨fun pins s σ H R I h => ?_⟩
  refine Call_ (ld_blt I hg hm boot_enumerate (PyProof.Rows.callWith_type1 (thn (ha.run pos pins s σ H _ I h) fun us s1 ⟨vs, H1, I1, r1, q1⟩ => ?_) hs rfl))
  obtain ⟨a, xs, ex, q⟩ := q1
  subst ex
  cases r1 with
  | cons r rr =>
    cases rr
    cases r
    have fpok : ∀ b ∈ [s1.heap.objs.size + 1, s1.heap.objs.size], FpOk X pins H1 b := fun b hb => by
      have e' : b = s1.heap.objs.size + 1 ∨ b = s1.heap.objs.size := by simpa using hb
      have hle : s1.heap.objs.size ≤ b := by
        rcases e' with z | z
        · rw [z]; exact Nat.le_add_right _ _
        · rw [z]; exact Nat.le_refl _
      exact I1.fpOk hle (I1.hok.fresh hle)
    rcases q with ⟨hq, q⟩ | ⟨hq, q⟩
    · obtain ⟨its, rv, p', hz⟩ := I1.list hq
      refine call_enumerate_list p'.isList fun h' he hit hsz hk => wpAny_pyIter_enum he ?_
      have I2 : Inv X pins σ H1 { s1 with heap := h' } := I1.kept (t' := s1.toks) hk
      exact ⟨s1.heap.objs.size + 1, [s1.heap.objs.size + 1, s1.heap.objs.size], _, _, H1, rfl, I2, turn_enum a (s1.heap.objs.size + 1) s1.heap.objs.size, ⟨⟨.none, he⟩, hit, Nat.succ_ne_self _⟩, fpok, q⟩
    · obtain ⟨its, rv, p', hz⟩ := I1.tuple hq
      have pT : s1.heap.IsTuple a its.toArray := p'
      refine call_enumT pT fun h' he hit hsz hk => wpAny_pyIter_enum he ?_
      have I2 : Inv X pins σ H1 { s1 with heap := h' } := I1.kept (t' := s1.toks) hk
      exact ⟨s1.heap.objs.size + 1, [s1.heap.objs.size + 1, s1.heap.objs.size], _, _, H1, rfl, I2, turn_enumT a (s1.heap.objs.size + 1) s1.heap.objs.size, ⟨⟨.none, he⟩, hit, Nat.succ_ne_self _⟩, fpok, q⟩
def bEnumA (f : Cb (List D)) : Cb (List D) := fun ρ μ => ob (f ρ μ) fun ds μ1 => match ds with
  | [.lst xs] => some (.ok (enD 0 xs) μ1)
  | [.tup xs] => some (.ok (enD 0 xs) μ1)
  | _ => none
section
variable {g : Gb} {k j : Nat} {Λ : Lr} {X : Cx} {W : WX} {a : Expr} {fs : Cb (List D)} {pos : Pos}
theorem di_enumA {p tpos : Pos} {elts : List Expr} {kk : Nat} (hm : g.mg "enumerate" = none) (ha : DA g k Λ X W [a] fs) (hg : Gl X "enumerate" := by rfl) (hs : starEach [a] X.env = [(false, eval a X.env)] := by rfl) : DI g k Λ X W (.Tuple elts kk tpos) (.Call (.Name "enumerate" p) [a] [] pos) (bEnumA fs) := fun ok tk =>
  PI.imp (pi_enumA hg (by rw [ok.mg]; exact hm) (ha ok tk) hs) fun σ H R ⟨ι, ρ, μ, r, l, m, e, p⟩ => goI_A l m e (by cases r with | ok _ _ => trivial | exc _ _ => exact p) fun ds μ1 ι1 H1 us e1 e2 x1 m1 l1 r1 => by
    split at e2
    · rename_i xs
      cases e2
      obtain ⟨v, rfl, rv⟩ := r1.inv1
      obtain ⟨ad, ws, rfl, h2, h3⟩ := rv
      refine ⟨ad, ws, rfl, .inl ⟨by rw [ok.K]; exact .inl h2.1, p ι1 H1 _ x1 m1 fun Λ' hΛ ι2 H2 μ2 x2 m2 i => ?_⟩⟩
      have h4 : Rep g.K Λ' ι2 H2 (.lst xs) (.ref ad) := Rep.ext x2 (.lst xs) (hΛ _ _ ⟨ad, ws, rfl, h2, h3⟩)
      obtain ⟨ad2, zs, z, h5, h6⟩ := h4
      cases z
      have sq : SqL X.K H2 ad zs := .inl h5.1
      refine ⟨fun hi => ⟨zs, sq, by rw [← h6.len]; rw [enD_len] at hi; exact hi⟩, fun d hd => ?_⟩
      rw [enD_get] at hd
      cases q : xs[i]? with
      | none => rw [q] at hd; cases hd
      | some d' =>
        rw [q] at hd
        cases hd
        obtain ⟨y, hy, ry⟩ := h6.get q
        refine ⟨⟨zs, y, sq, hy⟩, fun x H3 hx => ?_⟩
        obtain ⟨q, y', rfl, hq, rfl, hx⟩ := hx
        have := hx zs sq
        rw [hy] at this
        cases this
        have hr : Reps g.K Λ' ι2 H2 [.int ((0 + i : Nat) : Int), d'] [.int i, y] := ⟨_, _, rfl, by rw [Nat.zero_add]; rfl, Reps.one ry⟩
        obtain ⟨y1, y2, y3⟩ := new_tup m2 hq hr
        exact ⟨sam_upd hq, y3⟩
    · rename_i xs
      cases e2
      obtain ⟨v, rfl, rv⟩ := r1.inv1
      obtain ⟨ad, ws, rfl, h2, h3⟩ := rv
      refine ⟨ad, ws, rfl, .inr ⟨by rw [ok.K]; exact h2.sq, p ι1 H1 _ x1 m1 fun Λ' hΛ ι2 H2 μ2 x2 m2 i => ?_⟩⟩
      have h4 : Rep g.K Λ' ι2 H2 (.tup xs) (.ref ad) := Rep.ext x2 (.tup xs) (hΛ _ _ ⟨ad, ws, rfl, h2, h3⟩)
      obtain ⟨ad2, zs, z, h5, h6⟩ := h4
      cases z
      have sq : SqT X.K H2 ad zs := by rw [ok.K]; exact h5.sq
      refine ⟨fun hi => ⟨zs, sq, by rw [← h6.len]; rw [enD_len] at hi; exact hi⟩, fun d hd => ?_⟩
      rw [enD_get] at hd
      cases q : xs[i]? with
      | none => rw [q] at hd; cases hd
      | some d' =>
        rw [q] at hd
        cases hd
        obtain ⟨y, hy, ry⟩ := h6.get q
        refine ⟨⟨zs, y, sq, hy⟩, fun x H3 hx => ?_⟩
        obtain ⟨q, y', rfl, hq, rfl, hx⟩ := hx
        have := hx zs sq
        rw [hy] at this
        cases this
        have hr : Reps g.K Λ' ι2 H2 [.int ((0 + i : Nat) : Int), d'] [.int i, y] := ⟨_, _, rfl, by rw [Nat.zero_add]; rfl, Reps.one ry⟩
        obtain ⟨y1, y2, y3⟩ := new_tup m2 hq hr
        exact ⟨sam_upd hq, y3⟩
    · cases e2
end
end Mi

set_option Elab.async false
set_option linter.all false
set_option maxRecDepth 100000
set_option maxHeartbeats 4000000
namespace Mi
open PySem L2 LamX
section
variable {g : Gb} {k j k' : Nat} {Λ : Lr} {X : Cx} {W : WX} {tg elt iter : Expr} {fit : Cb (List D)} {t : Tg} {fe : Cb D} {x en ret a z f : Str} {st : Stmt} {ga ca : Addr} {fd : FuncData} {Ng : List Str} {p1 p2 p3 p4 p5 p6 p7 p8 p pf pz cpos pos lpos : Pos} {jj jz fi : Nat} {scope : Scope} {fbs : List (Cb D)}
theorem pts_toldB {own : List (Str × Nat)} {sB : Shared} {HB : Hp} {ceB : Env} {fpB : List Addr} {σ : L2.St} (TF : ToldF g x en ret a st ga ca fd Ng p1 p2 p3 p4 p5 p6 p7 p8 jj) (hΛ : Λ.lam = lamQ g k' fbs X) (hk : k' + 2 ≤ k) (ok : XOk g k X) (okB : XOk g k (X.blk sB HB scope ceB fpB))
    (out : Outs X (X.blk sB HB scope ceB fpB) σ) (hf : X.N[fi]? = some f) (hv : Vis ceB.scope f) (hd : (f == ("__debug__" : Str)) = false) (hcd : (f == ("__classdict__" : Str)) = false) (hg : Gl (X.blk sB HB scope ceB fpB) x) (hdb : (x == ("__debug__" : Str)) = false)
    (hse : starEach [.Name f pf] ceB = (false, eval (.Name f pf) ceB) :: starEach [] ceB) (hpl : (backTo pos (starEach [] ceB)).any (·.1) = false) :
    PTs (X.blk sB HB scope ceB fpB) [.Compare (.Call (.Name x p) [.Name f pf] [] pos) [.NotEq] [.Constant (.str z) jz pz] cpos] (fun σ2 H2 Q => wipe σ2 (own.map (·.2)) = wipe σ (own.map (·.2)) ∧ ∃ Λ' : Lr, Λ'.lam = Λ.lam ∧ rdT g Λ' W0 (tcB (own.map (·.2)) fi ret en fbs z) σ2 H2 Q) := by
  refine pts_one ⟨fun pins s σ2 H2 Q I ⟨hw, Λ', hl, ι, ρ, μ, r, l, m, e, pp⟩ => ?_⟩
  have h1 := pt_cmpR (pos := cpos) ((dop_ne (g := g) (k := k) (Λ := Λ')) _ okB) (pe_toldB (Λ := Λ') (pf := pf) (p := p) (pos := pos) TF (hl.trans hΛ) hk ok okB out hf hv hd hcd hg hdb hse hpl) (pe_str (X := X.blk sB HB scope ceB fpB) (x := z) (j := jz) (pos := pz)) (by with_unfolding_all rfl)
  refine h1.run pins s σ2 H2 Q I ?_
  unfold tcB at e
  split at e
  · rename_i n hn
    split at e
    · rename_i fb hfb
      obtain ⟨v, hv1, hv2⟩ := l.at_ _ _ hn
      have lo : LR g Λ' ι H2 σ (wipeD ρ (own.map (·.2))) := LR.unwipe (own := own.map (·.2)) (by rw [← hw]; exact l.wipe _)
      cases q : bTold ret en fb (wipeD ρ (own.map (·.2))) μ with
      | none => rw [q] at e; cases e
      | some o =>
        rw [q] at e
        refine ⟨n, v, ι, _, μ, fb, o, hv1, hv2, lo, m, hfb, q, ?_⟩
        cases o with
        | exc c μ1 => exact fun ι' H' x' m' => by cases e; exact pp ι' H' x' m'
        | ok d μ1 =>
          intro ι' H' u x' m' ru
          have e : (match dNe μ1 d (.str z) with
            | some (.bl b) => some (Out.ok b μ1)
            | _ => none) = some r := e
          split at e
          · rename_i b hb
            cases e
            refine ⟨ι', μ1, d, .str z, .bl b, m', ru, rfl, hb, fun ι2 H2 w x2 m2 rw' => ?_⟩
            cases rw'
            exact ⟨b, rfl, pp ι2 H2 (x'.trans x2) m2⟩
          · cases e
    · cases e
  · cases e
/-- [elt for .. in .. if told(f) != z], f from a list of lambdas -/
theorem de_compB (own : List (Str × Nat)) (TF : ToldF g x en ret a st ga ca fd Ng p1 p2 p3 p4 p5 p6 p7 p8 jj) (hΛ : Λ.lam = lamQ g k' fbs X) (hk : k' + 2 ≤ k)
    (hi : DI g k Λ X W tg iter fit) (hb : blkC X.N X.env.scope scope own = true) (ht : Blk Λ X scope fun Λ' X' => DG g k Λ' X' W0 (own.map (·.2)) tg t) (he : Blk Λ X scope fun Λ' X' => DE g k Λ' X' W0 elt fe)
    (hf : X.N[fi]? = some f := by rfl) (hv : ∀ (cl : List (Str × Addr)) (C : Addr), Vis (compEnvC scope cl C X.env).scope f := by intro _ _; exact Or.inl rfl) (hd : (f == ("__debug__" : Str)) = false := by decide) (hcd : (f == ("__classdict__" : Str)) = false := by decide)
    (hg : ∀ (s : Shared) (H : Hp) (cl : List (Str × Addr)) (C : Addr) (fp : List Addr), Gl (X.blk s H scope (compEnvC scope cl C X.env) fp) x := by intros; rfl) (hdb : (x == ("__debug__" : Str)) = false := by decide)
    (hse : ∀ ce : Env, starEach [.Name f pf] ce = (false, eval (.Name f pf) ce) :: starEach [] ce := by intro _; rfl) (hpl : ∀ ce : Env, (backTo pos (starEach [] ce)).any (·.1) = false := by intro _; rfl)
    (hs : ∀ x, foldedSetIterable iter X.env x = pure x := by intro _; rfl) :
    DE g k Λ X W (.ListComp elt [⟨tg, iter, [.Compare (.Call (.Name x p) [.Name f pf] [] pos) [.NotEq] [.Constant (.str z) jz pz] cpos], 0⟩] scope lpos) (bComp (own.map (·.2)) fit t (tcB (own.map (·.2)) fi ret en fbs z) fe) := fun ok tk =>
  PE.imp (pe_lcO ok.calm ok.nd (hi ok tk) (blkOk_by hb) (fun s H C cl fp => pg_any fun Λ' hl => ht Λ' hl s H C cl fp ok.blk takesN) (fun σ s H C cl fp out => pts_toldB TF hΛ hk ok ok.blk out hf (hv cl C) hd hcd (hg s H cl C fp) hdb (hse _) (hpl _)) (fun s H C cl fp => pe_any fun Λ' hl => he Λ' hl s H C cl fp ok.blk takesN) hs) fun σ H Q h => rd_comp h
/-! defs whose lambdas know their frame -/
theorem fn_okQ (lamP : Cx → Nat → Addr → Addr → Str → HO → Prop) {x qual : Str} {f cc : Addr} {fd : FuncData} {N ps : List Str} {body : Cs} (F : FunC g.K x qual st f cc fd) (S : FnScope N ps (defScope st)) (hbd : Binds g.K fd ps [])
    (hb : ∀ (A : Around) (outer : List Env) (s : Shared) (H : Hp) (E : XK) (av : List Addr), DSs g k ⟨lamP (fX g N qual st f cc A outer s H E), av⟩ (fX g N qual st f cc A outer s H E) (fW E) (defBody st) body) : FnOk g.P g.w g.K g.mg g.base (L2.CX g.P g.w) (k + 1) f fd ps (spM g ps.length (fnS N.length body)) := by
  obtain ⟨oc, od, kV, doc, pm, an, ct, osl, rfl, lk, hcd⟩ := F.ex
  refine fn_of lk hcd S (fun vs H Q E h => h.1) fun A outer s H vs Q E hr hsp => ?_
  obtain ⟨hl, Λ0, ι, ds, μ, r, m, rs, hF, hq⟩ := hsp
  have ok : XOk g k (fX g N qual st f cc A outer s H E) := ⟨rfl, rfl, rfl, rfl, rfl, rfl, hr, S.nd, passes_of rfl⟩
  have tk : Takes (fX g N qual st f cc A outer s H E) (fW E) := takes_of rfl rfl rfl rfl
  refine ⟨_, hb A outer s H E Λ0.av ok tk, ?_⟩
  generalize hΛ : (⟨lamP (fX g N qual st f cc A outer s H E), Λ0.av⟩ : Lr) = Λ1
  have av1 : Λ1.av = Λ0.av := by rw [← hΛ]
  have pu : Λ1.pure = Λ0.pure := by unfold Lr.pure; rw [av1]
  have rs' : Reps g.K Λ1 ι H ds vs := Reps.of_pure (Λ := Λ1) ds (by rw [pu]; exact rs)
  have m' : MR g Λ1 ι H μ := m.fr av1
  have hF : (match body (ds.map some ++ List.replicate (N.length - ds.length) none) μ with
    | some (.nx _ μ') => some (Out.ok D.non μ')
    | some (.rt d μ') => if lamf d = true then some (.ok d μ') else none
    | some (.ex c _ μ') => some (.exc c μ')
    | _ => none) = some r := hF
  split at hF
  · rename_i ρ' μ' q
    cases hF
    exact ⟨ι, _, μ, _, LR.start rs', m', q, fun ι' H' σ' x' m2 _ => hq ι' H' .non x' (m2.fr av1.symm) rfl⟩
  · rename_i d μ' q
    split at hF
    · rename_i hd
      cases hF
      exact ⟨ι, _, μ, _, LR.start rs', m', q, fun ι' H' v x' m2 rv => hq ι' H' v x' (m2.fr av1.symm) (by rw [← pu]; exact Rep.lam (Λ := Λ1) (Λ' := Λ1.pure) rfl d hd rv)⟩
    · cases hF
  · rename_i cn ρ' μ' q
    cases hF
    exact ⟨ι, _, μ, _, LR.start rs', m', q, fun ι' H' σ' x' m2 _ => hq ι' H' x' (m2.fr av1.symm)⟩
  · cases hF
theorem fn_okP (lamP : Cx → Nat → Addr → Addr → Str → HO → Prop) {x qual : Str} {f cc : Addr} {fd : FuncData} {N ps : List Str} {body : Cs} (F : FunC g.K x qual st f cc fd) (hm : g.mg x = some (.ref f)) (S : FnScope N ps (defScope st)) (hbd : Binds g.K fd ps [])
    (hb : ∀ (A : Around) (outer : List Env) (s : Shared) (H : Hp) (E : XK) (av : List Addr), DSs g k ⟨lamP (fX g N qual st f cc A outer s H E), av⟩ (fX g N qual st f cc A outer s H E) (fW E) (defBody st) body) : Fn g (k + 1) x ps.length (fnS N.length body) :=
  ⟨f, _, ps, hm, F.kp, hbd, fn_okQ lamP F S hbd hb⟩
theorem mc_ok (lamP : Cx → Nat → Addr → Addr → Str → HO → Prop) {c x qual : Str} {f cc : Addr} {fd : FuncData} {N ps : List Str} {body : Cs} {n : Nat} (hn : ps.length = n + 1) (F : FunC g.K x qual st f cc fd) (cl : Cls g.K (g.cls c)) (hm : Meth g.K (g.cls c) x f) (S : FnScope N ps (defScope st)) (hbd : Binds g.K fd ps [])
    (hb : ∀ (A : Around) (outer : List Env) (s : Shared) (H : Hp) (E : XK) (av : List Addr), DSs g k ⟨lamP (fX g N qual st f cc A outer s H E), av⟩ (fX g N qual st f cc A outer s H E) (fW E) (defBody st) body) : MC g (k + 1) c x n (fnS N.length body) :=
  ⟨f, _, ps, cl, hm, hbd, by rw [← hn]; exact fn_okQ lamP F S hbd hb⟩
theorem kc_ok (lamP : Cx → Nat → Addr → Addr → Str → HO → Prop) {c x qual : Str} {f cc : Addr} {fd : FuncData} {N ps : List Str} {body : Cs} {n : Nat} (hn : ps.length = n + 1) (F : FunC g.K x qual st f cc fd) (hg : g.mg c = some (.ref (g.cls c))) (hm : Mk g.K (g.cls c) f) (S : FnScope N ps (defScope st)) (hbd : Binds g.K fd ps [])
    (hb : ∀ (A : Around) (outer : List Env) (s : Shared) (H : Hp) (E : XK) (av : List Addr), DSs g k ⟨lamP (fX g N qual st f cc A outer s H E), av⟩ (fX g N qual st f cc A outer s H E) (fW E) (defBody st) body) : KC g (k + 1) c n (fnS N.length body) :=
  ⟨f, _, ps, hg, hm, hbd, by rw [← hn]; exact fn_okQ lamP F S hbd hb⟩
theorem MC.mono {c m : Str} {n : Nat} {F : FnS} (h : MC g j c m n F) (hk : j ≤ k) : MC g k c m n F := by
  obtain ⟨f, fd, ps, h1, h2, h3, h4⟩ := h.ex
  exact ⟨f, fd, ps, h1, h2, h3, h4.mono hk⟩
theorem mtab_nil {m : Str} {n : Nat} : ∀ (c : Str) (F : FnS), (c, F) ∈ ([] : List (Str × FnS)) → MC g j c m n F := fun _ _ h => by cases h
theorem mtab_cons {c m : Str} {n : Nat} {F : FnS} {tab : List (Str × FnS)} (h : MC g k c m n F) (hk : k ≤ j) (hr : ∀ c F, (c, F) ∈ tab → MC g j c m n F) : ∀ (c' : Str) (F' : FnS), (c', F') ∈ (c, F) :: tab → MC g j c' m n F' := fun c' F' hm => by
  rcases List.mem_cons.mp hm with e | e
  · cases e; exact h.mono hk
  · exact hr c' F' e
theorem cfs_nil {f : Str} : ∀ c ∈ ([] : List Str), CF g c f := fun _ h => by cases h
theorem cfs_cons {c f : Str} {cs : List Str} (h : CF g c f) (hr : ∀ c ∈ cs, CF g c f) : ∀ c' ∈ c :: cs, CF g c' f := fun c' hm => by
  rcases List.mem_cons.mp hm with e | e
  · subst e; exact h
  · exact hr c' e
end
end Mi

set_option Elab.async false
set_option linter.all false
set_option maxRecDepth 100000
set_option maxHeartbeats 4000000
/-! ### sum of lists from a list on -/
namespace Mi
open PySem PySem.Spec
open Sem (wp)
theorem args_sum2 (a b : Value) : argsOk "sum" ⟨[a, b], []⟩ := by unfold argsOk; kernel_rfl
theorem sub_ls : isSubtype (.type "list") (.type "str") = pure false := by rw [isSubtype_type]; kernel_rfl
theorem sub_lb : isSubtype (.type "list") (.type "bytes") = pure false := by rw [isSubtype_type]; kernel_rfl
theorem sub_la : isSubtype (.type "list") (.type "bytearray") = pure false := by rw [isSubtype_type]; kernel_rfl
def catF (parts : Nat → List Value) : Nat → Nat → List Value
  | _, 0 => []
  | i, k + 1 => parts i ++ catF parts (i + 1) k
section
variable {prog : Program} {w : World} {A : Around} {R : Result → Shared → Prop} {I ax S : Addr} {items : Array Value}
theorem sum_cat_loop (hh : A.handled = none) (hne : ax ≠ I) (ad : Nat → Addr) (parts : Nat → List Value) (mm : Nat → Nat) (hSI : S ≠ I) (hSx : S ≠ ax) (had : ∀ j, j < items.size → items[j]? = some (Value.ref (ad j))) (hadw : ∀ j, j < items.size → ad j ≠ I ∧ ad j ≠ S) :
    ∀ (k i : Nat) (s : Shared) (t : Addr) (ts : List Value) (c m : Nat), items.size - i = k → i ≤ items.size → s.heap.IsListIter I ax i → s.heap.IsList ax items → s.heap.get? S = some { cls := .type "list", dict := none, data := .seq #[.ref t] c, slots := #[] } →
    s.heap.get? t = some { cls := .type "list", data := .seq ts.toArray m } → t ≠ I → t ≠ S → (∀ j, i ≤ j → j < items.size → s.heap.get? (ad j) = some { cls := .type "list", data := .seq (parts j).toArray (mm j) }) → ts.length + (catF parts i k).length ≤ sizeLine →
    (∀ h' tk t' m', (∀ b o, b ≠ I → b ≠ S → s.heap.get? b = some o → h'.get? b = some o) → ((k = 0 ∧ t' = t) ∨ (k ≠ 0 ∧ s.heap.objs.size ≤ t')) → h'.get? t' = some { cls := .type "list", data := .seq (ts ++ catF parts i k).toArray m' } → R (.ok (.ret (.ref t'))) { s with heap := h', toks := tk }) →
    codeAny (model prog w) A (.builtin "sum.loop" ⟨[.ref I, .ref S, rawInt 2, rawInt 0], []⟩) R s := by
  intro k
  induction k with
  | zero =>
    intro i s t ts c m hk hi hit hl hS ht htw htS hp hz hR
    have hin : i = items.size := by omega
    subst hin
    refine codeAny_builtin F.entry_sum_loop ?_
    rw [Around.under_plainId F.plain_sum_loop _]
    show wpAny _ A.in1 (seqItems? (.ref S) >>= _) _ _ s
    refine wpAny_bind (wpAny_seqItems hS rfl ?_)
    show wpAny _ A.in1 (tryCatch (pyNext (.ref I)) _ >>= _) _ _ s
    refine wpAny_bind (wpAny_tryCatch (wpAny_pyNext_list_end (show A.in1.handled = none from hh) hit hl (by simp) fun h' he' => ?_))
    exact wpAny_pure (hR h' s.toks t m (fun b o hbw _ e => he' b o hbw e) (.inl ⟨rfl, rfl⟩) (by rw [show catF parts items.size 0 = [] from rfl, List.append_nil]; exact he' t _ htw ht))
  | succ k ih =>
    intro i s t ts c m hk hi hit hl hS ht htw htS hp hz hR
    have hlt : i < items.size := by omega
    refine codeAny_builtin F.entry_sum_loop ?_
    rw [Around.under_plainId F.plain_sum_loop _]
    show wpAny _ A.in1 (seqItems? (.ref S) >>= _) _ _ s
    refine wpAny_bind (wpAny_seqItems hS rfl ?_)
    show wpAny _ A.in1 (tryCatch (pyNext (.ref I)) _ >>= _) _ _ s
    refine wpAny_bind (wpAny_tryCatch (wpAny_pyNext_list_item hit hl (had i hlt) fun h' hit' hs' => ?_))
    have kp : ∀ b o, b ≠ I → s.heap.get? b = some o → h'.get? b = some o := fun b o hb e => (hs'.2 b hb).trans e
    have hS' := kp S _ hSI hS
    have ht' := kp t _ htw ht
    obtain ⟨aw, aS⟩ := hadw i hlt
    have ha' := kp (ad i) _ aw (hp i (Nat.le_refl _) hlt)
    have hz1 : ts.length + (parts i).length + (catF parts (i + 1) k).length ≤ sizeLine := by
      rw [show catF parts i (k + 1) = parts i ++ catF parts (i + 1) k from rfl, List.length_append] at hz
      omega
    have hsz : h'.objs.size = s.heap.objs.size := hs'.1
    have hSl : S < h'.objs.size := Heap.lt_size hS'
    show wpAny _ A.in1 ((holding [Value.ref (ad i)] (binaryOp .Add (.ref t) (.ref (ad i)))).attempt >>= _) _ _ _
    refine wpAny_bind (wpAny_attempt (wpAny_holding (PySem.P.add_list (s := { s with heap := h' }) ht' ha' ?_ (by rw [List.size_toArray, List.size_toArray]; omega))))
    have hr := Heap.get?_push_size h' (o := { cls := .type "list", data := .seq (ts.toArray ++ (parts i).toArray) }) rfl
    have kr : ∀ b o, h'.get? b = some o → (h'.push { cls := .type "list", data := .seq (ts.toArray ++ (parts i).toArray) }).get? b = some o := fun b o e => Heap.get?_push_of_some _ e
    have zr : (h'.push { cls := .type "list", data := .seq (ts.toArray ++ (parts i).toArray) }).objs.size = h'.objs.size + 1 := Heap.size_push ..
    generalize hh2 : h'.push { cls := .type "list", data := .seq (ts.toArray ++ (parts i).toArray) } = h2 at hr kr zr
    show wpAny _ A.in1 (updateSeq S (fun _ => #[.ref h'.objs.size]) >>= _) _ _ { s with heap := h2 }
    have hS2 := kr S _ hS'
    refine wpAny_bind (wpAny_updateSeq (s := { s with heap := h2 }) hS2 rfl ?_)
    have hS3 := Heap.get?_update_self (Obj.mapSeq fun _ => #[Value.ref h'.objs.size]) hS2 rfl
    refine wpAny_bind (wpAny_letGo ?_)
    have rS : h'.objs.size ≠ S := Nat.ne_of_gt hSl
    have rI : h'.objs.size ≠ I := by
      obtain ⟨o, ho, _⟩ := hit'
      exact Nat.ne_of_gt (Heap.lt_size ho)
    have k3 : ∀ b o, b ≠ S → h2.get? b = some o → ((h2.update S (Obj.mapSeq fun _ => #[Value.ref h'.objs.size])).update S (Obj.mapSeq fun _ => #[Value.ref h'.objs.size])).get? b = some o := fun b o hb e =>
      (Heap.get?_update_other _ _ (Ne.symm hb)).trans ((Heap.get?_update_other _ _ (Ne.symm hb)).trans e)
    have ea : ts.toArray ++ (parts i).toArray = (ts ++ parts i).toArray := by simp
    rw [ea] at hr
    refine wpAny_bind (wpAny_updateSeq (s := { s with heap := h2.update S (Obj.mapSeq fun _ => #[Value.ref h'.objs.size]) }) hS3 rfl (wpAny_pure ⟨plainId_quiet F.plain_sum_loop _, ih (i + 1) _ h'.objs.size (ts ++ parts i) _ _ (by omega) hlt (hit'.at fun o e => k3 I o (Ne.symm hSI) (kr _ _ e)) (hl.at fun o e => k3 ax o (Ne.symm hSx) (kr _ _ (kp _ _ hne e))) (Heap.get?_update_self _ hS3 rfl)
      (k3 _ _ rS hr) rI rS (fun j h1 h2 => k3 _ _ (hadw j h2).2 (kr _ _ (kp _ _ (hadw j h2).1 (hp j (by omega) h2)))) (by rw [List.length_append]; exact hz1) fun h4 tk t4 m4 k4 o4 g4 => ?_⟩))
    refine hR h4 tk t4 m4 (fun b o h1 h2 e => k4 b o h1 h2 (k3 b o h2 (kr _ _ (kp b o h1 e)))) (.inr ⟨Nat.succ_ne_zero _, ?_⟩) (by rw [show catF parts i (k + 1) = parts i ++ catF parts (i + 1) k from rfl, ← List.append_assoc]; exact g4)
    rcases o4 with ⟨_, e⟩ | ⟨_, e⟩
    · rw [e, hsz]; exact Nat.le_refl _
    · refine Nat.le_trans ?_ e
      show s.heap.objs.size ≤ (Heap.update (Heap.update h2 S _) S _).objs.size
      rw [(Heap.SameBut.update ..).1, (Heap.SameBut.update ..).1, zr, hsz]
      exact Nat.le_succ _
end
end Mi

set_option Elab.async false
set_option linter.all false
set_option maxRecDepth 100000
set_option maxHeartbeats 4000000
namespace Mi
open PySem PySem.Spec
open Sem (wp)
section
variable {prog : Program} {w : World} {A : Around} {E : Value → Shared → Prop} {s : Shared} {ax e : Addr} {items : Array Value}
theorem call_sum_cat {Q : Value → Shared → Prop} (hh : A.handled = none) (hl : s.heap.IsList ax items) (ad : Nat → Addr) (parts : Nat → List Value) (mm : Nat → Nat) (had : ∀ j, j < items.size → items[j]? = some (Value.ref (ad j)))
    (hp : ∀ j, j < items.size → s.heap.get? (ad j) = some { cls := .type "list", data := .seq (parts j).toArray (mm j) }) {es : List Value} {m : Nat} (he : s.heap.get? e = some { cls := .type "list", data := .seq es.toArray m }) (hz : es.length + (catF parts 0 items.size).length ≤ sizeLine)
    (h : ∀ h' tk t' m', (∀ b o, s.heap.get? b = some o → h'.get? b = some o) → ((items.size = 0 ∧ t' = e) ∨ (items.size ≠ 0 ∧ s.heap.objs.size ≤ t')) → h'.get? t' = some { cls := .type "list", data := .seq (es ++ catF parts 0 items.size).toArray m' } → Q (.ref t') { s with heap := h', toks := tk }) :
    wpAny (model prog w) A (call (.builtin "sum") [.ref ax, .ref e]) Q E s := by
  refine call_function_tree F.kind_sum F.plain_sum F.entry_sum (args_sum2 _ _) ?_
  unfold Builtin.«sum»
  simp only [List.length_cons, List.length_nil]
  rw [if_neg (by decide)]
  refine wpAny_bind (wpAny_of_eq (show Builtin.Builtins.bindParams "sum" ["start"] 0 ⟨[.ref e], []⟩ = pure [some (.ref e)] from rfl) ?_)
  refine wpAny_bind (wpAny_pyIter_list hl ?_)
  have k1 : ∀ b o, s.heap.get? b = some o → (s.heap.push { cls := .type "list_iterator", data := .fields #[.ref ax, .int 0 0] }).get? b = some o := fun b o q => Heap.get?_push_of_some _ q
  have z1 : (s.heap.push { cls := .type "list_iterator", data := .fields #[.ref ax, .int 0 0] }).objs.size = s.heap.objs.size + 1 := Heap.size_push ..
  have i1 : (s.heap.push { cls := .type "list_iterator", data := .fields #[.ref ax, .int 0 0] }).IsListIter s.heap.objs.size ax 0 := ⟨_, Heap.get?_push_size _ rfl, rfl, rfl⟩
  generalize hh1 : s.heap.push { cls := .type "list_iterator", data := .fields #[.ref ax, .int 0 0] } = h1 at k1 z1 i1
  have hT : ({ s with heap := h1 } : Shared).TypeIs (.ref e) "list" := ⟨_, k1 _ _ he, rfl⟩
  refine wpAny_bind (wpAny_pure ?_)
  simp only [List.forIn_cons, List.forIn_nil]
  refine wpAny_bind (wpAny_bind (wpAny_bind (wpAny_isInstance (T := "list") (b := false) hT sub_ls ?_)))
  simp only [Bool.false_eq_true, if_false]
  refine wpAny_pure (wpAny_bind (wpAny_bind (wpAny_isInstance (T := "list") (b := false) hT sub_lb ?_)))
  simp only [Bool.false_eq_true, if_false]
  refine wpAny_pure (wpAny_bind (wpAny_bind (wpAny_isInstance (T := "list") (b := false) hT sub_la ?_)))
  simp only [Bool.false_eq_true, if_false]
  refine wpAny_pure (wpAny_pure ?_)
  refine wpAny_bind (wpAny_newObj_type ?_ (by show 1 ≤ sizeLine; decide))
  have lt : ∀ b o, s.heap.get? b = some o → b < s.heap.objs.size := fun b o q => Heap.lt_size q
  obtain ⟨ol, hol, hcl, nl, hdl⟩ := id hl
  have hlt := lt _ _ hol
  have k2 : ∀ b o, h1.get? b = some o → (h1.push { cls := .type "list", data := .seq [Value.ref e].toArray }).get? b = some o := fun b o q => Heap.get?_push_of_some _ q
  refine wpAny_pure ⟨plainId_quiet F.plain_sum_loop _, sum_cat_loop (I := s.heap.objs.size) (S := h1.objs.size) (ax := ax) (items := items) hh (Nat.ne_of_lt hlt) ad parts mm (by rw [z1]; exact Nat.succ_ne_self _) (by rw [z1]; exact Nat.ne_of_gt (Nat.lt_succ_of_lt hlt)) had (fun j hj => ?_) items.size 0 _ e es _ m (by omega) (Nat.zero_le _)
    (i1.at fun o q => k2 _ _ q) (hl.at fun o q => k2 _ _ (k1 _ _ q)) (Heap.get?_push_size _ rfl) (k2 _ _ (k1 _ _ he)) (Nat.ne_of_lt (lt _ _ he)) (by rw [z1]; exact Nat.ne_of_lt (Nat.lt_succ_of_lt (lt _ _ he))) (fun j _ hj => k2 _ _ (k1 _ _ (hp j hj))) hz fun h' tk t' m' hk ho hg => ?_⟩
  · have := lt _ _ (hp j hj)
    rw [z1]
    exact ⟨Nat.ne_of_lt this, Nat.ne_of_lt (Nat.lt_succ_of_lt this)⟩
  · refine h h' tk t' m' (fun b o q => hk b o (Nat.ne_of_lt (lt _ _ q)) (by rw [z1]; exact Nat.ne_of_lt (Nat.lt_succ_of_lt (lt _ _ q))) (k2 _ _ (k1 _ _ q))) ?_ hg
    rcases ho with ho | ⟨h0, h1'⟩
    · exact .inl ho
    · refine .inr ⟨h0, Nat.le_trans ?_ h1'⟩
      show s.heap.objs.size ≤ (Heap.push _ _).objs.size
      rw [Heap.size_push, z1]
      exact Nat.le_trans (Nat.le_succ _) (Nat.le_succ _)
end
end Mi
namespace Mi
open PySem L2 LamX
/-- the lists within -/
def vws (μ : Sto) : List D → Option (List (List D))
  | [] => some []
  | d :: ds => match vw μ d, vws μ ds with
    | some x, some xs => some (x :: xs)
    | _, _ => none
theorem vws_len {μ : Sto} : ∀ {ds : List D} {pss : List (List D)}, vws μ ds = some pss → pss.length = ds.length
  | [], _, e => by cases e; rfl
  | d :: ds, _, e => by
    unfold vws at e
    split at e
    · rename_i x xs h1 h2
      cases e
      rw [List.length_cons, List.length_cons, vws_len h2]
    · cases e
theorem vws_get {μ : Sto} : ∀ {ds : List D} {pss : List (List D)}, vws μ ds = some pss → ∀ (j : Nat) (d : D), ds[j]? = some d → ∃ ps, pss[j]? = some ps ∧ vw μ d = some ps
  | [], _, _, j, d, h => by simp at h
  | e :: ds, _, q, j, d, h => by
    unfold vws at q
    split at q
    · rename_i x xs h1 h2
      cases q
      cases j with
      | zero => simp at h; subst h; exact ⟨x, rfl, h1⟩
      | succ j =>
        obtain ⟨ps, a, b⟩ := vws_get h2 j d (by simpa using h)
        exact ⟨ps, by simpa using a, b⟩
    · cases q
/-- sum of a list of lists, from a list on, by values -/
def rSumC (K : PySem.W.Frag) : List V → Hp → VK → Prop := fun xs H Q => ∃ (l e : Addr) (vs es : List V) (qs : List (List V)), xs = [.ref l, .ref e] ∧ SqL K H l vs ∧ Rd H e (.lst es) ∧ qs.length = vs.length ∧ (∀ (j : Nat) (v : V), vs[j]? = some v → ∃ (a : Addr) (ps : List V), v = .ref a ∧ qs[j]? = some ps ∧ Rd H a (.lst ps)) ∧
  es.length + qs.flatten.length ≤ sizeLine ∧ (vs = [] → Q (.ref e) H) ∧ (vs ≠ [] → ∀ p, H p = none → Q (.ref p) (upd H p (.lst (es ++ qs.flatten))))
theorem catF_vals {qs : List (List V)} {parts : Nat → List Value} : ∀ (k i : Nat), i + k = qs.length → (∀ (j : Nat) (ps : List V), i ≤ j → qs[j]? = some ps → Vals ps (parts j)) → Vals (qs.drop i).flatten (catF parts i k)
  | 0, i, h, _ => by rw [List.drop_of_length_le (by omega)]; exact .nil
  | k + 1, i, h, hp => by
    have hi : i < qs.length := by omega
    rw [List.drop_eq_getElem_cons hi, List.flatten_cons]
    exact (hp i _ (Nat.le_refl _) (List.getElem?_eq_getElem hi)).append (catF_vals k (i + 1) (by omega) fun j ps h1 h2 => hp j ps (by omega) h2)
theorem cr_sumC {X : Cx} (hc : X.calm = true) : CallR X (.builtin "sum") (rSumC X.K) := by
  intro pins s σ H xs us Q I r ⟨l, e, vs, es, qs, ex, hl, he, hql, hq, hz, q0, q1⟩
  subst ex
  cases r with
  | cons r1 r =>
  cases r with
  | cons r2 r =>
  cases r
  cases r1
  cases r2
  obtain ⟨its, rv, pl, _⟩ := I.list hl
  obtain ⟨ze, ite, ne, re, hle, ee⟩ := lstR I he
  have hlen : its.length = vs.length := rv.length.symm
  have key : ∀ j : Nat, ∃ z : Addr × List Value × Nat, j < its.length → its[j]? = some (Value.ref z.1) ∧ s.heap.get? z.1 = some { cls := .type "list", data := .seq z.2.1.toArray z.2.2 } ∧ ∀ ps, qs[j]? = some ps → Vals ps z.2.1 := fun j => by
    by_cases hj : j < its.length
    · have hjv : j < vs.length := by omega
      obtain ⟨a, ps, ea, eq, hr⟩ := hq j vs[j] (List.getElem?_eq_getElem hjv)
      obtain ⟨u, hu, ru⟩ := rv.get (List.getElem?_eq_getElem hjv)
      rw [ea] at ru
      cases ru
      obtain ⟨_, ip, np, rp, _, ep⟩ := lstR I hr
      exact ⟨(a, ip, np), fun _ => ⟨hu, ep, fun ps' h' => by rw [eq] at h'; cases h'; exact rp⟩⟩
    · exact ⟨(0, [], 0), fun h => absurd h hj⟩
  obtain ⟨f, hf⟩ := Classical.axiomOfChoice key
  have hv : Vals qs.flatten (catF (fun j => (f j).2.1) 0 its.length) := by
    have := catF_vals (qs := qs) (parts := fun j => (f j).2.1) its.length 0 (by omega) fun j ps _ h => (hf j (by
      have := (List.getElem?_eq_some_iff.mp h).1
      omega)).2.2 ps h
    simpa using this
  refine call_sum_cat (I.ok.hd hc) pl.isList (fun j => (f j).1) (fun j => (f j).2.1) (fun j => (f j).2.2) (fun j hj => ?_) (fun j hj => ?_) ee ?_ fun h' tk t' m' hk ho hg => ?_
  · rw [List.size_toArray] at hj
    rw [List.getElem?_toArray]
    exact (hf j hj).1
  · rw [List.size_toArray] at hj
    exact (hf j hj).2.1
  · rw [List.size_toArray, ← hv.length, ← hle]
    exact hz
  · rw [List.size_toArray] at ho hg
    rcases ho with ⟨h0, rfl⟩ | ⟨h0, ht⟩
    · exact ⟨.ref t', H, I.kept (t' := tk) hk, rfl, q0 (List.length_eq_zero_iff.mp (by omega))⟩
    · have hn : H t' = none := I.hok.fresh ht
      have vv : Vals (es ++ qs.flatten) (ite ++ catF (fun j => (f j).2.1) 0 its.length) := re.append hv
      refine ⟨.ref t', _, I.laid (t' := tk) (o := .lst (es ++ qs.flatten)) hk ht ⟨by rw [List.length_append]; exact hz, _, m', vv, hg⟩, rfl, q1 (fun z => h0 (by rw [hlen, z]; rfl)) t' hn⟩
def dSum2 (μ : Sto) : List D → Option D
  | [a, b] => match vw μ a, vw μ b with
    | some ds, some es => (match vws μ ds with
      | some pss => if es.length + pss.flatten.length ≤ 16777216 then some (if ds.isEmpty = true then b else .lst (es ++ pss.flatten)) else none
      | none => none)
    | _, _ => none
  | ds => dSum μ ds
section
variable {g : Gb} {k : Nat} {Λ : Lr}
theorem Reps.flat {K : PySem.W.Frag} {ι : List Addr} {H : Hp} : ∀ {pss : List (List D)} {qs : List (List V)}, pss.length = qs.length → (∀ (j : Nat) (ps : List D) (q : List V), pss[j]? = some ps → qs[j]? = some q → Reps K Λ ι H ps q) → Reps K Λ ι H pss.flatten qs.flatten
  | [], [], _, _ => rfl
  | [], _ :: _, h, _ => by cases h
  | _ :: _, [], h, _ => by cases h
  | p :: pss, q :: qs, h, hp => by
    rw [List.flatten_cons, List.flatten_cons]
    exact Reps.app (hp 0 p q rfl rfl) (Reps.flat (by simpa using h) fun j ps q h1 h2 => hp (j + 1) ps q (by simpa using h1) (by simpa using h2))
theorem dc_sum2 : DCall g k Λ (.builtin "sum") dSum2 := by
  intro X ok pins s σ H xs us Q I r ⟨ι, μ, ds, d, m, rs, e, q⟩
  unfold dSum2 at e
  split at e
  · rename_i a b
    split at e
    · rename_i ds es h1 h2
      split at e
      · rename_i pss h3
        split at e
        · rename_i hz
          cases e
          obtain ⟨v, u, rfl, rv, ru⟩ := rs.inv2
          obtain ⟨l, vs, rfl, l1, l2⟩ := vw_rd m rv h1
          obtain ⟨e, ws, rfl, e1, e2⟩ := vw_rd m ru h2
          have hln := l2.len
          have hpl := vws_len h3
          have key : ∀ j : Nat, ∃ z : List V, ∀ d : D, ds[j]? = some d → ∃ (a : Addr) (ps : List D), vs[j]? = some (V.ref a) ∧ pss[j]? = some ps ∧ Rd H a (.lst z) ∧ Reps g.K Λ ι H ps z := fun j => by
            by_cases hj : j < ds.length
            · obtain ⟨ps, p1, p2⟩ := vws_get h3 j ds[j] (List.getElem?_eq_getElem hj)
              obtain ⟨v, v1, v2⟩ := l2.get (List.getElem?_eq_getElem hj)
              obtain ⟨a, z, ea, z1, z2⟩ := vw_rd m v2 p2
              exact ⟨z, fun d hd => ⟨a, ps, by rw [v1, ea], p1, z1, z2⟩⟩
            · exact ⟨[], fun d hd => absurd (List.getElem?_eq_some_iff.mp hd).1 hj⟩
          obtain ⟨f, hf⟩ := Classical.axiomOfChoice key
          have hqg : ∀ j : Nat, ((List.range ds.length).map f)[j]? = if j < ds.length then some (f j) else none := fun j => by
            rw [List.getElem?_map]
            by_cases hj : j < ds.length
            · rw [List.getElem?_range hj, if_pos hj]; rfl
            · rw [List.getElem?_eq_none (by simpa using hj), if_neg hj]; rfl
          have hfl : Reps g.K Λ ι H pss.flatten ((List.range ds.length).map f).flatten := Reps.flat (by simp [hpl]) fun j ps q h4 h5 => by
            have hj : j < ds.length := by
              have := (List.getElem?_eq_some_iff.mp h4).1
              omega
            rw [hqg, if_pos hj] at h5
            cases h5
            obtain ⟨a, ps', _, b1, _, b2⟩ := hf j ds[j] (List.getElem?_eq_getElem hj)
            rw [h4] at b1
            cases b1
            exact b2
          refine cr_sumC ok.calm pins s σ H _ us Q I r ⟨l, e, vs, ws, (List.range ds.length).map f, rfl, .inl l1, e1, by simp [hln], fun j v hv => ?_, ?_, fun h0 => ?_, fun h0 p hp => ?_⟩
          · have hj : j < ds.length := by
              have := (List.getElem?_eq_some_iff.mp hv).1
              omega
            obtain ⟨a, ps, a1, _, a2, _⟩ := hf j ds[j] (List.getElem?_eq_getElem hj)
            rw [hv] at a1
            cases a1
            exact ⟨a, f j, rfl, by rw [hqg, if_pos hj], a2⟩
          · rw [← e2.len, ← hfl.len]; exact szl_le hz
          · have : ds = [] := List.length_eq_zero_iff.mp (by rw [hln, h0]; rfl)
            subst this
            exact q ι H _ (.refl _ _) m ru
          · obtain ⟨y1, y2, y3⟩ := new_lst m hp (e2.app hfl)
            have hne : ds.isEmpty = false := by
              cases ds with
              | nil => exact absurd (List.length_eq_zero_iff.mp (by rw [← hln]; rfl)) h0
              | cons _ _ => rfl
            rw [hne] at q
            exact q _ _ _ y1 y2 y3
        · cases e
      · cases e
    · cases e
  · exact dc_sum X ok pins s σ H xs us Q I r ⟨ι, μ, _, d, m, rs, e, q⟩
end
end Mi

set_option Elab.async false
set_option linter.all false
set_option maxRecDepth 100000
set_option maxHeartbeats 4000000
namespace Mi
open PySem PySem.Spec PyProof.Rows L2 LamX
/-! ### products, least ones, ==, partition, append, signs -/
def repD (n : Nat) (xs : List D) : List D := (List.replicate n xs).flatten
def dMulA (μ : Sto) (a b : D) : Option D := match a, b with
  | .int i, .int j => if mulOk i j then some (.int (i * j)) else none
  | .tup xs, .int k => if xs.isEmpty = false ∧ 2 ≤ k ∧ k ≤ 1000 ∧ xs.length ≤ 1000 then some (.tup (repD k.toNat xs)) else none
  | a, .int k => (match vw μ a with
    | some xs => if -1073741824 ≤ k ∧ k ≤ 1073741824 ∧ xs.length * k.toNat ≤ 16777216 then some (.lst (repD k.toNat xs)) else none
    | none => none)
  | _, _ => none
theorem op_repR {X : Cx} : OpR X (binaryOp .Mult) (fun x y H Q => ∃ l k xs, x = .ref l ∧ y = .int k ∧ Rd H l (.lst xs) ∧ -(2 ^ 63) ≤ k ∧ k < 2 ^ 63 ∧ xs.length * k.toNat ≤ sizeLine ∧ ∀ p, H p = none → Q (.ref p) (upd H p (.lst (List.replicate k.toNat xs).flatten))) := by
  intro pins s σ H x y v u Q I rx ry ⟨l, k, xs, ex, ey, hH, h1, h2, hz, q⟩
  subst ex ey
  cases rx
  obtain ⟨t, rfl⟩ := ry
  obtain ⟨z, its, n, r, hl, e⟩ := lstR I hH
  have hlen : its.toArray.size * k.toNat ≤ sizeLine := by rw [List.size_toArray, ← hl]; exact hz
  have hcap : ¬ its.toArray.size * k.toNat > (2 ^ 63 - 1) / 8 := by
    have : (sizeLine : Nat) ≤ (2 ^ 63 - 1) / 8 := by decide
    omega
  have hfit : ¬ (!Builtin.List.listFitsIndex k) = true := by
    rw [fitsIndex_both h1 h2]
    exact Bool.false_ne_true
  have hlong : ¬ Builtin.List.listTooLong (its.toArray.size * k.toNat) = true := by
    rw [notLongL hlen]
    exact Bool.false_ne_true
  have hnew : List.foldl (fun x1 x2 => x1 ++ x2) #[] (List.replicate (if its.toArray.isEmpty = true then 0 else k.toNat) its.toArray) = (List.replicate k.toNat its).flatten.toArray := by
    have f0 : ∀ m : Nat, List.foldl (fun x1 x2 => x1 ++ x2) #[] (List.replicate m its.toArray) = (List.replicate m its).flatten.toArray := fun m => by
      have := foldl_rep its m []
      rw [List.nil_append] at this
      exact this
    rw [f0]
    cases its with
    | nil => simp
    | cons a r' => rw [if_neg (by simp)]
  refine wpAny_binaryOp_repeat_ref (T := "list") (U := "int") (by decide) ⟨_, e, rfl⟩ (fun s' => typeIs_int s' k t) noFill_list_mul F.fills_int_mul F.slot_int_rmul repeat_list F.slot_int_index.lookup
    (call_meets F.slot_int_rmul (typeIs_int s k t) F.entry_int_rmul (F.args_int_rmul_2 _ _) (int___rmul___int_list k t l its.toArray n)
      ⟨e, rfl, ⟨_, e, rfl⟩, call_meets F.slot_list_mul ⟨_, e, rfl⟩ F.entry_list_mul (F.args_list_mul_2 _ _) (AutoListH.list___mul___list_int_3 l its.toArray n k t hfit hcap hlong) ⟨e, ?_⟩⟩)
  rw [hnew]
  exact ⟨.ref _, _, I.lnew (t' := s.toks) (r.rep k.toNat) (by rw [PyProof.Rows.lm_len_rep_flat, Nat.mul_comm]; exact hz), rfl, q _ I.fresh⟩
def dMin3 (_ : Sto) : List D → Option D
  | [.int a, .int b, .int c] => some (.int (if c < (if b < a then b else a) then c else if b < a then b else a))
  | _ => none
def dMax3 (_ : Sto) : List D → Option D
  | [.int a, .int b, .int c] => some (.int (if (if a < b then b else a) < c then c else if a < b then b else a))
  | _ => none
def pdA (μ : Sto) (d : D) : Option PyData := match vw μ d with
  | some xs => (match pds xs with
    | some ys => some (.list ys)
    | none => none)
  | none => pd d
def dEqBA (μ : Sto) (a b : D) : Option Bool := match dEqB a b with
  | some r => some r
  | none => (match pdA μ a, pdA μ b with
    | some p, some q => if SeqAt.shaped p && SeqAt.shaped q then some (PyData.eqv p q) else none
    | _, _ => none)
def dEqA (μ : Sto) (a b : D) : Option D := match dEqBA μ a b with
  | some r => some (.bl r)
  | none => none
def dNeA (μ : Sto) (a b : D) : Option D := match dEqBA μ a b with
  | some r => some (.bl (!r))
  | none => none
def dPart (_ : Sto) (a : Str) : D → Option D
  | .str b => if (b.length == 0) = false ∧ a.length ≤ 16777216 then some (.tup [.str (Txt.partition a b).1, .str (Txt.partition a b).2.1, .str (Txt.partition a b).2.2]) else none
  | _ => none
def appPut (μ : Sto) (x d : D) : Option Sto := match x with
  | .ref n => (match μ[n]? with
    | some (.lst xs) => if xs.length < 16777216 ∧ lamf d = true then some (μ.set n (.lst (xs ++ [d]))) else none
    | _ => none)
  | _ => none
def isLst (μ : Sto) (x : D) : Bool := (vw μ x).isSome
def bApp (fo fd : Cb D) : Cb D := fun ρ μ => ob (fo ρ μ) fun x μ1 => if isLst μ1 x = true then ob (fd ρ μ1) fun d μ2 => (match appPut μ2 x d with
  | some μ3 => some (.ok .non μ3)
  | none => none) else none
def dIMul (μ : Sto) (a b : D) : Option (D × Sto) := match a, b with
  | .int i, .int j => if mulOk i j then some (.int (i * j), μ) else none
  | _, _ => none
def bItemsA (f : Cb D) : Cb (List D) := fun ρ μ => ob (f ρ μ) fun d μ1 => match d with
  | .lst xs => some (.ok xs μ1)
  | .tup xs => some (.ok xs μ1)
  | .str z => some (.ok (z.cps.toList.map fun c => .str ⟨#[c]⟩) μ1)
  | _ => none
theorem vw_none_pd {μ : Sto} {d : D} : vw μ d = none → pdA μ d = pd d := fun h => by unfold pdA; rw [h]
section
variable {g : Gb} {k : Nat} {Λ : Lr}
theorem Reps.rep {K : PySem.W.Frag} {ι : List Addr} {H : Hp} {ds : List D} {vs : List V} (r : Reps K Λ ι H ds vs) : ∀ n : Nat, Reps K Λ ι H (repD n ds) (List.replicate n vs).flatten
  | 0 => rfl
  | n + 1 => by
    unfold repD
    rw [List.replicate_succ, List.replicate_succ, List.flatten_cons, List.flatten_cons]
    exact r.app (Reps.rep r n)
theorem dop_mulA : DOp g k Λ (binaryOp .Mult) dMulA := by
  intro X ok pins s σ H x y v u Q I rx ry ⟨ι, μ, a, b, d, m, ra, rb, e, q⟩
  unfold dMulA at e
  split at e
  · rename_i i j
    exact dop_mul X ok pins s σ H x y v u Q I rx ry ⟨ι, μ, .int i, .int j, d, m, ra, rb, e, q⟩
  · split at e
    · rename_i xs kk hz
      cases e
      obtain ⟨a1, vs, rfl, h1, q1⟩ := ra
      cases rb
      have hne : vs ≠ [] := fun z => by
        have := q1.len
        rw [z] at this
        have : xs = [] := List.length_eq_zero_iff.mp this
        rw [this] at hz
        simp at hz
      exact op_repT pins s σ H _ _ v u Q I rx ry ⟨a1, kk, vs, rfl, rfl, by rw [ok.K]; exact h1.sq, hne, hz.2.1, hz.2.2.1, by rw [← q1.len]; exact hz.2.2.2, fun p hp => by
        obtain ⟨y1, y2, y3⟩ := new_tup m hp (q1.rep kk.toNat)
        exact q _ _ _ y1 y2 y3⟩
    · cases e
  · split at e
    · rename_i xs hx
      split at e
      · rename_i hz
        cases e
        obtain ⟨l, vs, rfl, h1, q1⟩ := vw_rd m ra hx
        cases rb
        exact op_repR pins s σ H _ _ v u Q I rx ry ⟨l, _, vs, rfl, rfl, h1, by omega, by omega, by rw [← q1.len]; exact szl_le hz.2.2, fun p hp => by
          obtain ⟨y1, y2, y3⟩ := new_lst m hp (q1.rep _)
          exact q _ _ _ y1 y2 y3⟩
      · cases e
    · cases e
  · cases e
theorem dc_min3 : DCall g k Λ (.builtin "min") dMin3 := by
  intro X ok pins s σ H xs us Q I r ⟨ι, μ, ds, d, m, rs, e, q⟩
  unfold dMin3 at e
  split at e
  · rename_i a b c
    cases e
    obtain ⟨v, u, w, rfl, rv, ru, rw'⟩ := rs.inv3
    cases rv; cases ru; cases rw'
    refine call_min3Nu ok.calm pins s σ H _ us Q I r ⟨_, _, _, .int (if c < (if b < a then b else a) then c else if b < a then b else a), rfl, ?_, q ι H _ (.refl _ _) m rfl⟩
    unfold nuMin3 nuMin2 nuLt nuCB
    by_cases h1 : b < a
    · by_cases h2 : c < b <;> simp [h1, h2]
    · by_cases h2 : c < a <;> simp [h1, h2]
  · cases e
theorem dc_max3 : DCall g k Λ (.builtin "max") dMax3 := by
  intro X ok pins s σ H xs us Q I r ⟨ι, μ, ds, d, m, rs, e, q⟩
  unfold dMax3 at e
  split at e
  · rename_i a b c
    cases e
    obtain ⟨v, u, w, rfl, rv, ru, rw'⟩ := rs.inv3
    cases rv; cases ru; cases rw'
    refine call_max3Nu ok.calm pins s σ H _ us Q I r ⟨_, _, _, .int (if (if a < b then b else a) < c then c else if a < b then b else a), rfl, ?_, q ι H _ (.refl _ _) m rfl⟩
    unfold nuMax3 nuMax2 nuLt nuCB
    by_cases h1 : a < b
    · by_cases h2 : b < c <;> simp [h1, h2]
    · by_cases h2 : a < c <;> simp [h1, h2]
  · cases e
theorem pdA_dp {X : Cx} (ok : XOk g k X) {ι : List Addr} {H : Hp} {μ : Sto} (m : MR g Λ ι H μ) {d : D} {v : V} {p : PyData} (r : Rep g.K Λ ι H d v) (e : pdA μ d = some p) : Dp X.K H v p := by
  rw [ok.K]
  unfold pdA at e
  split at e
  · rename_i xs hx
    split at e
    · rename_i ys hy
      cases e
      obtain ⟨a, vs, rfl, h2, h3⟩ := vw_rd m r hx
      exact .lst (.inl h2) (pds_dp h3 hy)
    · cases e
  · exact pd_dp r e
theorem eqBA_rd {X : Cx} {ι : List Addr} {H : Hp} {μ : Sto} (m : MR g Λ ι H μ) {a b : D} {x y : V} {r : Bool} (ok : XOk g k X) (ra : Rep g.K Λ ι H a x) (rb : Rep g.K Λ ι H b y) (e : dEqBA μ a b = some r) :
    (scal x y = true ∧ decide (x = y) = r) ∨ ∃ d e, Dp X.K H x d ∧ Dp X.K H y e ∧ SeqAt.shaped d = true ∧ SeqAt.shaped e = true ∧ PyData.eqv d e = r := by
  unfold dEqBA at e
  split at e
  · rename_i r' hr
    cases e
    exact eqB_rd ok ra rb hr
  · split at e
    · rename_i p q h1 h2
      split at e
      · rename_i hs
        cases e
        simp only [Bool.and_eq_true] at hs
        exact .inr ⟨p, q, pdA_dp ok m ra h1, pdA_dp ok m rb h2, hs.1, hs.2, rfl⟩
      · cases e
    · cases e
theorem dop_eqA : DOp g k Λ (compareOp .Eq) dEqA := by
  intro X ok pins s σ H x y v u Q I rx ry ⟨ι, μ, a, b, d, m, ra, rb, e, q⟩
  unfold dEqA at e
  split at e
  · rename_i r hr
    cases e
    rcases eqBA_rd m ok ra rb hr with ⟨h1, h2⟩ | ⟨p, p', h1, h2, h3, h4, h5⟩
    · exact op_eq pins s σ H x y v u Q I rx ry ⟨h1, q ι H _ (.refl _ _) m (by rw [h2]; rfl)⟩
    · exact op_eqD (by have := ok.room.units; exact this) pins s σ H x y v u Q I rx ry ⟨p, p', h1, h2, h3, h4, q ι H _ (.refl _ _) m (by rw [h5]; rfl)⟩
  · cases e
theorem dop_neA : DOp g k Λ (compareOp .NotEq) dNeA := by
  intro X ok pins s σ H x y v u Q I rx ry ⟨ι, μ, a, b, d, m, ra, rb, e, q⟩
  unfold dNeA at e
  split at e
  · rename_i r hr
    cases e
    rcases eqBA_rd m ok ra rb hr with ⟨h1, h2⟩ | ⟨p, p', h1, h2, h3, h4, h5⟩
    · exact op_ne pins s σ H x y v u Q I rx ry ⟨h1, q ι H _ (.refl _ _) m (by rw [h2]; rfl)⟩
    · exact op_neD (by have := ok.room.units; exact this) pins s σ H x y v u Q I rx ry ⟨p, p', h1, h2, h3, h4, q ι H _ (.refl _ _) m (by rw [h5]; rfl)⟩
  · cases e
theorem ip_mulR {X : Cx} : PIp X .Mult (fun x y H Q => ∃ i j, x = .int i ∧ y = .int j ∧ CMul i j ∧ Q (.int (i * j)) H) := fun pins s σ H x y v u Q I rx ry h => iop_mul pins s σ H x y v u Q I rx ry h
theorem dip_mul : DIp g k Λ .Mult dIMul := by
  intro X ok pins s σ H x y v u Q I rx ry ⟨ι, μ, a, b, d, μ', m, ra, rb, e, q⟩
  unfold dIMul at e
  split at e
  · split at e
    · rename_i hc
      cases e; cases ra; cases rb
      refine ip_mulR pins s σ H _ _ v u Q I rx ry ⟨_, _, rfl, rfl, ?_, q ι H _ (.refl _ _) m rfl⟩
      unfold mulOk at hc
      simp only [Bool.or_eq_true, Bool.and_eq_true, decide_eq_true_eq] at hc
      exact hc
    · cases e
  · cases e
variable {X : Cx} {W : WX} {a b tg : Expr} {fa fb fo fd : Cb D} {pos apos : Pos}
theorem de_part (ha : DE g k Λ X W a fa) (hb : DE g k Λ X W b fb) (hs : starEach [b] X.env = [(false, eval b X.env)] := by rfl) (hbase : attributeBase a "partition" X.env (eval a X.env) = eval a X.env := by rfl) (hline : (apos.endLine == pos.line) = true := by rfl) :
    DE g k Λ X W (.Call (.Attribute a "partition" apos) [b] [] pos) (bM1 dPart fa fb) := fun ok tk => PE.imp (pe_partition (ha ok tk) (hb ok tk) hs hbase hline) fun σ H Q h => rd_m1 (fun z y H Q ⟨ι, μ, bb, d, m, rb, e, q⟩ => by
  unfold dPart at e
  split at e
  · split at e
    · rename_i hz
      cases e; cases rb
      refine ⟨z, _, rfl, rfl, hz.1, szl_le hz.2, fun p hp => ?_⟩
      obtain ⟨y1, y2, y3⟩ := new_tup m hp (Reps.of_txts (ns := [(Txt.partition z _).1, (Txt.partition z _).2.1, (Txt.partition z _).2.2]))
      exact q _ _ _ y1 y2 y3
    · cases e
  · cases e) h
theorem de_app (ho : DE g k Λ X W a fo) (hd : DE g k Λ X W b fd) (hbase : attributeBase a "append" X.env (eval a X.env) = eval a X.env := by rfl)
    (hfew : ((backTo pos (starEach [b] X.env)).all (fun x => !x.1) && (backToKw pos (keywordEach [] X.env)).all (fun x => x.1.isSome)
      && decide (([b] : List Expr).length + ([] : List Keyword).length + (if ([] : List Keyword).isEmpty then 0 else 1) < 30)) = true := by rfl)
    (hline : (apos.endLine == pos.line) = true := by rfl) (hs : starEach [b] X.env = (false, eval b X.env) :: starEach [] X.env := by rfl) (hpl : (backTo pos (starEach [] X.env)).any (·.1) = false := by rfl) :
    DE g k Λ X W (.Call (.Attribute a "append" apos) [b] [] pos) (bApp fo fd) := fun ok tk =>
  PE.imp (pe_bm F.plainAttrs_list F.slot_list_append F.type_list_append mt_append (ho ok tk) (pa_cons (hd ok tk) pa_nil hs) hbase hfew hline hs hpl) fun σ H Q ⟨ι, ρ, μ, r, l, m, e, p⟩ => go_E (X1 := True) l m e p.px fun x μ1 ι1 H1 v e1 e2 x1 m1 l1 r1 => by
    split at e2
    · rename_i hl
      have ty : tyV X.K "list" v H1 := by
        unfold isLst at hl
        cases q : vw μ1 x with
        | none => rw [q] at hl; cases hl
        | some xs =>
          obtain ⟨ad, vs, rfl, h2, _⟩ := vw_rd m1 r1 q
          exact .inl ⟨rfl, vs, .inl h2⟩
      refine ⟨ty, go_E (X1 := True) l1 m1 e2 (p.ext x1).px fun d μ2 ι2 H2 u _ e3 x2 m2 l2 r2 => ?_⟩
      split at e3
      · rename_i μ3 ha
        cases e3
        unfold appPut at ha
        split at ha
        · rename_i n
          split at ha
          · rename_i xs hn
            split at ha
            · rename_i hz
              cases ha
              obtain ⟨ad, rfl, had⟩ := Rep.ext x2 (.ref n) r1
              obtain ⟨ad', h1, us, h2, h3⟩ := m2.ob n _ hn
              rw [had] at h1
              cases h1
              have lfx : lamfs (xs ++ [d]) = true := by
                have h4 := pure_lamfs h3
                have : ∀ ys : List D, lamfs ys = true → lamfs (ys ++ [d]) = true := fun ys => by
                  induction ys with
                  | nil => intro _; simp [lamfs, hz.2]
                  | cons y ys ih =>
                    intro h
                    simp only [lamfs, Bool.and_eq_true] at h
                    simp only [List.cons_append, lamfs, Bool.and_eq_true]
                    exact ⟨h.1, ih h.2⟩
                exact this xs h4
              obtain ⟨y1, y2⟩ := m2.set hn had lfx ((Reps.of_pure _ h3).app (Reps.one r2))
              refine ⟨ad, us, u, rfl, rfl, h2, by rw [← h3.len, sizeLine_eq]; omega, ?_⟩
              exact p ι2 _ .non ((x1.trans x2).trans y1) y2 rfl
            · cases ha
          · cases ha
        · cases ha
      · cases e3
    · cases e2
theorem PI.or {tg e : Expr} {t u : TI} (h1 : PI X tg e t) (h2 : PI X tg e u) : PI X tg e (fun σ H R => t σ H R ∨ u σ H R) := ⟨fun pins s σ H R I h => h.elim (h1.run pins s σ H R I) (h2.run pins s σ H R I)⟩
theorem itk_str {ι : List Addr} {H : Hp} (z : Str) : Itk g Λ ι H (Its z) (z.cps.toList.map fun c => .str ⟨#[c]⟩) := fun Λ' _ ι2 H2 μ2 _ _ i => by
  refine ⟨fun h => ?_, fun d hd => ?_⟩
  · show z.cps.size ≤ i
    simpa using h
  · have hi : i < z.cps.size := by
      have := (List.getElem?_eq_some_iff.mp hd).1
      simpa using this
    refine ⟨hi, fun x H3 ⟨e1, c, e2, e3⟩ => ?_⟩
    subst e1 e3
    rw [List.getElem?_map, Array.getElem?_toList, e2] at hd
    cases hd
    exact ⟨fun _ _ h => h, rfl⟩
theorem di_sqA (ha : DE g k Λ X W a fa) : DI g k Λ X W tg a (bItemsA fa) := fun ok tk => PI.imp (PI.or (di_sq (tg := tg) ha ok tk) (pi_str (tg := tg) (ha ok tk))) fun σ H R ⟨ι, ρ, μ, r, l, m, e, p⟩ => by
  have e : ob (fa ρ μ) (fun d μ1 => match d with
    | .lst xs => some (.ok xs μ1)
    | .tup xs => some (.ok xs μ1)
    | .str z => some (.ok (z.cps.toList.map fun c => .str ⟨#[c]⟩) μ1)
    | _ => none) = some r := e
  by_cases hs : ∃ z μ1, fa ρ μ = some (.ok (.str z) μ1)
  · obtain ⟨z, μ1, q⟩ := hs
    refine .inr (goI_E (β := D) l m e (by cases r with | ok _ _ => trivial | exc _ _ => exact p) fun d μ2 ι1 H1 v e1 e2 x1 m1 l1 r1 => ?_)
    rw [q] at e1
    cases e1
    cases e2
    cases r1
    exact ⟨z, rfl, p ι1 H1 _ x1 m1 (itk_str z)⟩
  · refine .inl ⟨ι, ρ, μ, r, l, m, ?_, p⟩
    show ob (fa ρ μ) _ = some r
    cases q : fa ρ μ with
    | none => rw [q] at e; cases e
    | some o =>
      rw [q] at e
      cases o with
      | exc c m' => exact e
      | ok d m' =>
        cases d with
        | str z => exact absurd ⟨z, m', q⟩ hs
        | lst xs => exact e
        | tup xs => exact e
        | _ => cases e
end
end Mi

set_option Elab.async false
set_option linter.all false
set_option maxRecDepth 100000
set_option maxHeartbeats 4000000
namespace Mi
open PySem PySem.Spec PyProof.Rows L2 LamX
/-! ### methods, for the head -/
def clsBody : Stmt → List Stmt
  | .ClassDef _ _ _ body _ _ _ _ _ _ _ => body
  | _ => []
def dDefM (c m qual : Str) (st : Stmt) : He.DefD := ⟨(c, some m), m, qual, defArgs st, defBody st, defScope st, [], []⟩
theorem FunC.codeP {K : PySem.W.Frag} {x q : Str} {st : Stmt} {f c : Addr} {fd : FuncData} {p : Str × Option Str} (F : FunC K x q st f c fd) (hf : f = He.fAd K p) : c = He.codeOf K p := by
  obtain ⟨oc, od, kV, doc, pm, an, ct, osl, e, lk, hcd⟩ := F.ex
  subst hf
  exact (He.codeOf_eq (p := p) lk (by rw [e])).symm
end Mi

set_option Elab.async false
set_option linter.all false
set_option maxRecDepth 100000
set_option maxHeartbeats 4000000
namespace Mi
open PySem PySem.Spec PyProof.Rows L2 LamX
def bIfT (tc ta tb : Cb Bool) : Cb Bool := fun ρ μ => ob (tc ρ μ) fun b μ1 => if b then ta ρ μ1 else tb ρ μ1
section
variable {g : Gb} {k : Nat} {Λ : Lr} {X : Cx} {W : WX} {a b c : Expr} {ta tb tc : Cb Bool} {pos : Pos}
theorem pt_ifX {tA tB tC : TT} (hc : PT X c tC) (ha : PT X a tA) (hb : PT X b tB) : PT X (.IfExp c a b pos) (fun σ H Q => tC σ H fun d H1 => if d = true then tA σ H1 Q else tB σ H1 Q) := by
  refine ⟨fun pins s σ H Q I h => ?_⟩
  unfold PySem.isTrue
  refine wpAny_bind (thn (hc.run pins s σ H _ I h) fun d s1 ⟨H1, I1, q1⟩ => ?_)
  cases d with
  | true => exact ha.run pins s1 σ H1 Q I1 q1
  | false => exact hb.run pins s1 σ H1 Q I1 q1
theorem dt_ifT (hc : DT g k Λ X W c tc) (ha : DT g k Λ X W a ta) (hb : DT g k Λ X W b tb) : DT g k Λ X W (.IfExp c a b pos) (bIfT tc ta tb) := fun ok tk =>
  PT.imp (pt_ifX (hc ok tk) (ha ok tk) (hb ok tk)) fun σ H Q ⟨ι, ρ, μ, r, l, m, e, p⟩ => go_T l m e p.px fun d μ1 ι1 H1 e1 e2 x1 m1 l1 => by
    cases d with
    | true => exact ⟨ι1, ρ, μ1, r, l1, m1, e2, p.ext x1⟩
    | false => exact ⟨ι1, ρ, μ1, r, l1, m1, e2, p.ext x1⟩
end
end Mi

set_option Elab.async false
set_option linter.all false
set_option maxRecDepth 100000
set_option maxHeartbeats 4000000
namespace Mi
open PySem L2 TL
/-! ### the mirror, read off: what came since A20 -/
section
variable {μ : Sto} {ρ : En} {i j : Int} {x y : D} {s t : Str}
@[simp] theorem bItemsA_s {f : Cb D} : bItemsA f ρ μ = ob (f ρ μ) fun d μ1 => (match d with | .lst xs => some (.ok xs μ1) | .tup xs => some (.ok xs μ1) | .str z => some (.ok (z.cps.toList.map fun c => .str ⟨#[c]⟩) μ1) | _ => none) := rfl
@[simp] theorem bEnumA_s {f : Cb (List D)} : bEnumA f ρ μ = ob (f ρ μ) fun ds μ1 => (match ds with | [.lst xs] => some (.ok (enD 0 xs) μ1) | [.tup xs] => some (.ok (enD 0 xs) μ1) | _ => none) := rfl
@[simp] theorem bZip_s {f : Cb (List D)} : bZip f ρ μ = ob (f ρ μ) fun ds μ1 => (match ds with | [.lst xs, .lst ys] => some (.ok (zipD xs ys) μ1) | [.tup xs, .tup ys] => some (.ok (zipD xs ys) μ1) | _ => none) := rfl
@[simp] theorem bIfT_s {tc ta tb : Cb Bool} : bIfT tc ta tb ρ μ = ob (tc ρ μ) fun b μ1 => if b then ta ρ μ1 else tb ρ μ1 := rfl
@[simp] theorem bTold_s {ret en : Str} {fb : Cb D} : bTold ret en fb ρ μ = (match fb ρ μ with | some (.ok d m) => some (.ok d m) | some (.exc c m) => if c = en then some (.ok (.str ret) m) else none | none => none) := rfl
@[simp] theorem dIxA_l {xs : List D} : dIxA μ (.lst xs) (.int i) = atI xs i := rfl
@[simp] theorem dIxA_t {xs : List D} : dIxA μ (.tup xs) (.int i) = atI xs i := rfl
@[simp] theorem dIxA_d {ks : List Key} {xs : List D} : dIxA μ (.dct ks xs) (.str s) = valD ks xs (.inr s) := rfl
theorem dIxA_ref {n : Nat} {xs : List D} (h : μ[n]? = some (.lst xs)) : dIxA μ (.ref n) (.int i) = atI xs i := by
  unfold dIxA dctD
  simp only [h]
  unfold dIx sqD vw
  simp only [h]
@[simp] theorem dMulA_i : dMulA μ (.int i) (.int j) = if mulOk i j then some (.int (i * j)) else none := rfl
@[simp] theorem dEqA_i : dEqA μ (.int i) (.int j) = some (.bl (decide (i = j))) := by show some (D.bl (i == j)) = _; rw [beq_dec]
@[simp] theorem dNeA_i : dNeA μ (.int i) (.int j) = some (.bl (!decide (i = j))) := by show some (D.bl (!(i == j))) = _; rw [beq_dec]
@[simp] theorem dEqA_s : dEqA μ (.str s) (.str t) = some (.bl (decide (s = t))) := rfl
@[simp] theorem dNeA_s : dNeA μ (.str s) (.str t) = some (.bl (!decide (s = t))) := rfl
@[simp] theorem dNeA_b {a b : Bool} : dNeA μ (.bl a) (.bl b) = some (.bl (a != b)) := by cases a <;> cases b <;> rfl
theorem dEqA_of {r : Bool} (h : dEqB x y = some r) : dEqA μ x y = some (.bl r) := by unfold dEqA dEqBA; rw [h]
theorem dNeA_of {r : Bool} (h : dEqB x y = some r) : dNeA μ x y = some (.bl (!r)) := by unfold dNeA dEqBA; rw [h]
theorem dNeA_lst (xs ys : List Int) : dNeA μ (.lst (xs.map .int)) (.lst (ys.map .int)) = some (.bl (!decide (xs = ys))) := dNeA_of (eqB_lst xs ys)
theorem dEqA_lst (xs ys : List Int) : dEqA μ (.lst (xs.map .int)) (.lst (ys.map .int)) = some (.bl (decide (xs = ys))) := dEqA_of (eqB_lst xs ys)
@[simp] theorem dLenA_l {xs : List D} : dLenA μ [.lst xs] = some (.int xs.length) := rfl
@[simp] theorem dLenA_t {xs : List D} : dLenA μ [.tup xs] = some (.int xs.length) := rfl
@[simp] theorem dTuple_l {xs : List D} : dTuple μ [.lst xs] = some (.tup xs) := rfl
@[simp] theorem dTuple_t {xs : List D} : dTuple μ [.tup xs] = some (.tup xs) := rfl
theorem dTuple_ref {n : Nat} {xs : List D} (h : μ[n]? = some (.lst xs)) : dTuple μ [.ref n] = some (.tup xs) := by
  unfold dTuple
  simp only [vw, h]
@[simp] theorem dList_l {xs : List D} : dList μ [.lst xs] = some (.lst xs) := rfl
@[simp] theorem dList_t {xs : List D} : dList μ [.tup xs] = some (.lst xs) := rfl
@[simp] theorem dMin3_i {k : Int} : dMin3 μ [.int i, .int j, .int k] = some (.int (if k < (if j < i then j else i) then k else if j < i then j else i)) := rfl
@[simp] theorem dIMul_i : dIMul μ (.int i) (.int j) = if mulOk i j then some (.int (i * j), μ) else none := rfl
theorem dIAdd_ref {n : Nat} {xs ys : List D} (h : μ[n]? = some (.lst xs)) (h1 : xs.length + ys.length ≤ 16777216) (h2 : lamfs (xs ++ ys) = true) : dIAdd μ (.ref n) (.lst ys) = some (.ref n, μ.set n (.lst (xs ++ ys))) := by
  unfold dIAdd
  simp only [h, vw, h1, h2, and_self, if_true]
theorem bFld_ref {cs : List Str} {f c : Str} {fo : Cb D} {n : Nat} {fs : List Str} {xs : List D} {d : D} {μ1 : Sto} (h1 : fo ρ μ = some (.ok (.ref n) μ1)) (h2 : μ1[n]? = some (.ins c fs xs)) (h3 : c ∈ cs) (h4 : lkD fs xs f = some d) : bFld cs f fo ρ μ = some (.ok d μ1) := by
  unfold bFld
  simp only [h1, ob, insD, h2, h3, if_true, h4, rt]
theorem bMeth_ref {tab : List (Str × FnS)} {m c : Str} {fo : Cb D} {fs : Cb (List D)} {n : Nat} {gs : List Str} {xs : List D} {F : FnS} {ds : List D} {μ1 μ2 : Sto} (h1 : fo ρ μ = some (.ok (.ref n) μ1)) (h2 : μ1[n]? = some (.ins c gs xs)) (h3 : tab.lookup c = some F) (h4 : m ∉ gs) (h5 : fs ρ μ1 = some (.ok ds μ2)) (h6 : lamfs ds = true) :
    bMeth tab m fo fs ρ μ = F (.ref n :: ds) μ2 := by
  unfold bMeth
  simp only [h1, insD, h2, h3, h4, if_false, h5, ob, h6, if_true]
theorem bApp_ref {fo fd : Cb D} {n : Nat} {xs ys : List D} {d : D} {μ1 μ2 : Sto} (h1 : fo ρ μ = some (.ok (.ref n) μ1)) (h2 : μ1[n]? = some (.lst ys)) (h3 : fd ρ μ1 = some (.ok d μ2)) (h4 : μ2[n]? = some (.lst xs)) (h5 : xs.length < 16777216) (h6 : lamf d = true) :
    bApp fo fd ρ μ = some (.ok .non (μ2.set n (.lst (xs ++ [d])))) := by
  unfold bApp
  simp only [h1, ob, isLst, vw, h2, Option.isSome_some, if_true, h3, appPut, h4, h5, h6, and_self]
end
/-! ### loops that make more of the store -/
def Pre (μ μ' : Sto) : Prop := ∃ ex, μ' = μ ++ ex
theorem Pre.refl (μ : Sto) : Pre μ μ := ⟨[], by simp⟩
theorem Pre.trans {a b c : Sto} (h : Pre a b) (k : Pre b c) : Pre a c := by
  obtain ⟨x, rfl⟩ := h
  obtain ⟨y, rfl⟩ := k
  exact ⟨x ++ y, by simp⟩
theorem Pre.get {μ μ' : Sto} (h : Pre μ μ') {n : Nat} {so : SO} (e : μ[n]? = some so) : μ'[n]? = some so := by
  obtain ⟨x, rfl⟩ := h
  rw [List.getElem?_append_left (List.getElem?_eq_some_iff.mp e).1]
  exact e
theorem Pre.len {μ μ' : Sto} (h : Pre μ μ') : μ.length ≤ μ'.length := by
  obtain ⟨x, rfl⟩ := h
  simp
theorem pre_app (μ : Sto) (x : List SO) : Pre μ (μ ++ x) := ⟨x, rfl⟩
/-- a comprehension whose parts do no more than make new objects -/
theorem cl_pre {t : Tg} {fc : Cb Bool} {fe : Cb D} {ρ : En} {μ0 : Sto} (p : D → Bool) (f : D → D) : ∀ (ds acc : List D) (μ : Sto), Pre μ0 μ → (∀ d ∈ ds, ∀ μ, Pre μ0 μ → ∃ ρ1 μ1, t d ρ μ = some (ρ1, μ) ∧ fc ρ1 μ = some (.ok (p d) μ1) ∧ Pre μ μ1 ∧ (p d = true → ∃ μ2, fe ρ1 μ1 = some (.ok (f d) μ2) ∧ Pre μ1 μ2)) → acc.length + ds.length ≤ 16777216 →
    ∃ μ', cl t fc fe ds acc ρ μ = some (.ok (acc ++ (ds.filter p).map f) μ') ∧ Pre μ μ'
  | [], acc, μ, _, _, _ => ⟨μ, by simp [cl], .refl _⟩
  | d :: ds, acc, μ, hp0, h, hz => by
    rw [List.length_cons] at hz
    obtain ⟨ρ1, μ1, h1, h2, q1, h3⟩ := h d List.mem_cons_self μ hp0
    have h' : ∀ d ∈ ds, _ := fun d hd => h d (List.mem_cons_of_mem _ hd)
    unfold cl
    rw [h1]
    dsimp only
    rw [h2]
    cases hp : p d with
    | false =>
      dsimp only
      obtain ⟨μ', e, q⟩ := cl_pre p f ds acc μ1 (hp0.trans q1) h' (by omega)
      exact ⟨μ', by rw [e]; simp [hp], q1.trans q⟩
    | true =>
      obtain ⟨μ2, h4, q2⟩ := h3 hp
      dsimp only
      rw [h4]
      dsimp only
      rw [if_pos (by omega)]
      obtain ⟨μ', e, q⟩ := cl_pre p f ds (acc ++ [f d]) μ2 ((hp0.trans q1).trans q2) h' (by simp; omega)
      exact ⟨μ', by rw [e]; simp [hp], (q1.trans q2).trans q⟩
/-- a generator expression, all of it walked -/
theorem cgo_pre {α : Type} {t : Tg} {fc : Cb Bool} {fe : Cb D} {st : α → D → Option (α ⊕ D)} {fin : α → Option D} {ρ : En} {μ0 : Sto} (p : D → Bool) (f : D → D) (g : α → D → α) : ∀ (ds : List D) (a : α) (μ : Sto), Pre μ0 μ →
    (∀ d ∈ ds, ∀ μ, Pre μ0 μ → ∃ ρ1 μ1, t d ρ μ = some (ρ1, μ) ∧ fc ρ1 μ = some (.ok (p d) μ1) ∧ Pre μ μ1 ∧ (p d = true → ∃ μ2, fe ρ1 μ1 = some (.ok (f d) μ2) ∧ Pre μ1 μ2)) →
    (∀ (k : Nat) d, ds[k]? = some d → p d = true → st (((ds.take k).filter p).foldl (fun a d => g a (f d)) a) (f d) = some (.inl (g (((ds.take k).filter p).foldl (fun a d => g a (f d)) a) (f d)))) →
    ∃ μ', cgo t fc fe st fin ds a ρ μ = rt (fin ((ds.filter p).foldl (fun a d => g a (f d)) a)) μ' ∧ Pre μ μ'
  | [], a, μ, _, _, _ => ⟨μ, by unfold cgo; rw [List.filter_nil, List.foldl_nil]; cases fin a <;> rfl, .refl _⟩
  | d :: ds, a, μ, hp0, h, hs => by
    obtain ⟨ρ1, μ1, h1, h2, q1, h3⟩ := h d List.mem_cons_self μ hp0
    have h' : ∀ d ∈ ds, _ := fun d hd => h d (List.mem_cons_of_mem _ hd)
    unfold cgo
    rw [h1]
    dsimp only
    rw [h2]
    cases hp : p d with
    | false =>
      dsimp only
      obtain ⟨μ', e, q⟩ := cgo_pre (fin := fin) p f g ds a μ1 (hp0.trans q1) h' (fun k d' hd hpd => by
        have := hs (k + 1) d' (by simpa using hd) hpd
        rw [List.take_succ_cons, List.filter_cons_of_neg (by simp [hp])] at this
        exact this)
      exact ⟨μ', by rw [e, List.filter_cons_of_neg (by simp [hp])], q1.trans q⟩
    | true =>
      obtain ⟨μ2, h4, q2⟩ := h3 hp
      dsimp only
      rw [h4]
      dsimp only
      have h0 := hs 0 d (by simp) hp
      rw [List.take_zero, List.filter_nil, List.foldl_nil] at h0
      rw [h0]
      dsimp only
      obtain ⟨μ', e, q⟩ := cgo_pre (fin := fin) p f g ds (g a (f d)) μ2 ((hp0.trans q1).trans q2) h' (fun k d' hd hpd => by
        have := hs (k + 1) d' (by simpa using hd) hpd
        rw [List.take_succ_cons, List.filter_cons_of_pos hp, List.foldl_cons] at this
        exact this)
      exact ⟨μ', by rw [e, List.filter_cons_of_pos hp, List.foldl_cons], (q1.trans q2).trans q⟩
/-! ### the laws' dice, as printed by gen2 -/
def hDice : FnS := fnS 1 (cSeq (cIf (bTst (bChain dLt dLt (bBin dSub (bCon (.int 0)) (bCon (.int 10))) (bVar 0) (bCon (.int 10)))) (cRet (bLstM (bCons (bFn dAbs (bCons (bVar 0) (bNil))) (bCons (bCon (.int 0)) (bCons (bCon (.int 2)) (bNil)))))) (cNop)) (cRet (bLstM (bCons (bVar 0) (bCons (bBin dAdd (bCon (.int 1)) (bBin dMod (bFn dInt (bCons (bVar 0) (bNil))) (bCon (.int 1009)))) (bCons (bFn dInt (bCons (bBin dGe (bVar 0) (bBin dPow (bCon (.int 10)) (bCon (.int 18)))) (bNil))) (bNil)))))))
def hRoll : FnS := fnS 3 (cSeq (cIf (bOrT (bTst (bBin dEqA (bBin dIxA (bVar 0) (bCon (.int 2))) (bCon (.int 2)))) (bAndT (bTst (bBin dEqA (bBin dIxA (bVar 0) (bCon (.int 2))) (bCon (.int 1)))) (bTst (bBin dGt (bBin dIxA (bVar 0) (bCon (.int 0))) (bCon (.int 0)))))) (cSeq (cSet 2 (bBin dMod (bFn dInt (bCons (bBin dIxA (bVar 0) (bCon (.int 0))) (bNil))) (bVar 1))) (cSeq (cAsg (bBin dDiv (bBin dIxA (bVar 0) (bCon (.int 0))) (bVar 1)) (tgSubA (bVar 0) (bCon (.int 0)))) (cRet (bVar 2)))) (cNop)) (cSeq (cAsg (bCon (.int 0)) (tgSubA (bVar 0) (bCon (.int 2)))) (cSeq (cIf (bTst (bBin dGt (bVar 1) (bCon (.int 100000000)))) (cStuck) (cNop)) (cSeq (cAsg (bBin dMod (bFn dInt (bCons (bBin dAdd (bBin dAdd (bBin dMulA (bBin dIxA (bVar 0) (bCon (.int 0))) (bCon (.int 48271))) (bBin dMulA (bBin dIxA (bVar 0) (bCon (.int 1))) (bCon (.int 69621)))) (bCon (.int 11))) (bNil))) (bCon (.int 2147483647))) (tgSubA (bVar 0) (bCon (.int 0)))) (cSeq (cAsg (bBin dAdd (bBin dIxA (bVar 0) (bCon (.int 1))) (bCon (.int 1))) (tgSubA (bVar 0) (bCon (.int 1)))) (cRet (bBin dMod (bFn dInt (bCons (bBin dDiv (bBin dIxA (bVar 0) (bCon (.int 0))) (bCon (.int 7))) (bNil))) (bVar 1))))))))
def hRounds : FnS := fnS 4 (cSeq (cSet 2 (bSl (bVar 0) (bNoPart) (bPart (bVar 1)))) (cSeq (cIf (bTst (bBin dEqA (bVar 2) (bLst (bNil)))) (cSet 2 (bLst (bCons (bCon (.int 0)) (bNil)))) (cNop)) (cRet (bComp [3] (bItemsA (bVar 2)) (tgName 3) (bYes) (bCallM hDice (bCons (bVar 3) (bNil)))))))
theorem hroll_s {μ : Sto} {n : Nat} {a b c many : Int} (hμ : μ[n]? = some (.lst [.int a, .int b, .int c])) (h0 : 0 < many) (h1 : many ≤ 100000000) :
    ∃ r a' b' c', 0 ≤ r ∧ r < many ∧ hRoll [.ref n, .int many] μ = some (.ok (.int r) (μ.set n (.lst [.int a', .int b', .int c']))) := by
  have hl : n < μ.length := (List.getElem?_eq_some_iff.mp hμ).1
  have hg : ∀ x, (μ.set n x)[n]? = some x := fun x => List.getElem?_set_self hl
  have hd : many < 1073741824 := by omega
  have hm : ¬ 100000000 < many := by omega
  have ix : ∀ {ν : Sto} {p q r : Int} {k : Int}, ν[n]? = some (.lst [.int p, .int q, .int r]) → dIxA ν (.ref n) (.int k) = atI [.int p, .int q, .int r] k := fun h => dIxA_ref h
  unfold hRoll
  rw [fnS_s]
  by_cases hc : c = 2 ∨ (c = 1 ∧ 0 < a)
  · refine ⟨a % many, a / many, b, c, Int.emod_nonneg _ (by omega), Int.emod_lt_of_pos _ h0, ?_⟩
    rcases hc with h | ⟨h, h'⟩
    · subst h
      simp [ix hμ, hμ, atI, ixN, modOk, divOk, h0, hd, tgSubA, subPut, lamf]
    · subst h
      simp [ix hμ, hμ, atI, ixN, modOk, divOk, h0, hd, h', tgSubA, subPut, lamf]
  · refine ⟨(a * 48271 + b * 69621 + 11) % 2147483647 / 7 % many, (a * 48271 + b * 69621 + 11) % 2147483647, b + 1, 0, Int.emod_nonneg _ (by omega), Int.emod_lt_of_pos _ h0, ?_⟩
    have e1 : ¬ c = 2 := fun h => hc (.inl h)
    have i1 := ix (k := 0) (hg (.lst [.int a, .int b, .int 0]))
    have i2 := ix (k := 1) (hg (.lst [.int a, .int b, .int 0]))
    have i3 := ix (k := 0) (hg (.lst [.int ((a * 48271 + b * 69621 + 11) % 2147483647), .int b, .int 0]))
    have i4 := ix (k := 1) (hg (.lst [.int ((a * 48271 + b * 69621 + 11) % 2147483647), .int b, .int 0]))
    have i5 := ix (k := 0) (hg (.lst [.int ((a * 48271 + b * 69621 + 11) % 2147483647), .int (b + 1), .int 0]))
    by_cases e2 : c = 1
    · have e3 : ¬ 0 < a := fun h => hc (.inr ⟨e2, h⟩)
      subst e2
      simp [ix hμ, hμ, atI, ixN, modOk, divOk, mulOk, h0, hd, hm, e3, tgSubA, subPut, lamf, hg, i1, i2, i3, i4, i5]
    · simp [ix hμ, hμ, atI, ixN, modOk, divOk, mulOk, h0, hd, hm, e1, e2, tgSubA, subPut, lamf, hg, i1, i2, i3, i4, i5]
theorem hdice_eq : hDice = gDice := rfl
theorem hrounds_s (ns : List Int) : ∃ a b c, hRounds [.scr ns, .int 1] [] = some (.ok (.lst [.ref 0]) [.lst [.int a, .int b, .int c]]) := by
  unfold hRounds
  rw [fnS_s, hdice_eq]
  cases ns with
  | nil =>
    obtain ⟨a, b, c, h⟩ := dice_s 0 []
    have e : dSl [] (.scr []) none (some 1) = some (.lst []) := by rfl
    have e2 : dEqA [] (.lst []) (.lst []) = some (.bl true) := by rfl
    refine ⟨a, b, c, ?_⟩
    simp [e, e2, cl, wipeD, lamfs, lamf, h]
  | cons x r =>
    obtain ⟨a, b, c, h⟩ := dice_s x []
    have e : dSl [] (.scr (x :: r)) none (some 1) = some (.lst [.int x]) := by
      have h1 : cutD (x :: r) none (some 1) = [x] := by
        unfold cutD
        simp [HT.sIx]
      unfold dSl
      dsimp only
      rw [h1]
      rfl
    have e2 : dEqA [] (.lst [.int x]) (.lst []) = some (.bl false) := by rfl
    refine ⟨a, b, c, ?_⟩
    simp [e, e2, cl, wipeD, lamfs, lamf, h]
end Mi

set_option Elab.async false
set_option linter.all false
set_option maxRecDepth 100000
set_option maxHeartbeats 4000000
namespace GxP
open PySem PySem.Spec PyProof.Rows L2 GenW
/-! ### generator expressions whose parts may raise -/
/-- an exception that has left the generator's frame -/
def AirX (Y : Cx) (W : WX) (u : Value) (s'' : Shared) : Prop :=
  ∃ (a : Addr) (B : Heap) (sI : Shared) (pins : List (Addr × Obj)) (σ : L2.St) (H : Hp) (cls : Value) (d : Option Addr),
    u = .ref a ∧ Inv Y pins σ H sI ∧ (∀ b o, sI.heap.get? b = some o → b ∉ frs Y.stack → B.get? b = some o) ∧ sI.heap.UpToSlots s''.heap ∧ HandSPX.FlyingZ B Y.outer a (Zc cls d) s''.heap ∧ H a = none ∧ s''.os = sI.os ∧ AllBare s''.gens ∧ W cls d σ H
theorem air_leave {Y : Cx} {W : WX} {u : Value} {s' : Shared} {E₁ : Value → Shared → Prop} (hs : Y.stack = Y.env :: Y.outer) (hf : Y.env.frame = some Y.env.locals) (x : XE Y W u s') : wpAny (model Y.prog Y.w) Y.A (leaving Y.env u) (fun _ s'' => AirX Y W u s'') E₁ s' := by
  obtain ⟨a, B, sI, pins, σ, H, cls, d, rfl, I, nb, up, sky, na, os, ag, w⟩ := x
  have hfr : Y.A.frames = some (Y.env :: Y.outer) := by rw [I.ok.frames, hs]
  have fin : ∀ h', HandSPX.FlyingZ B Y.outer a (Zc cls d) h' → s'.heap.UpToSlots h' → AirX Y W (.ref a) { s' with heap := h' } := fun h' fl up' =>
    ⟨a, B, sI, pins, σ, H, cls, d, rfl, I, nb, up.trans up', fl, na, os, ag, w⟩
  rw [hs] at sky
  rcases sky with ⟨hB, hn, hl, oe, vs, he, hz, hd, h1⟩ | fl | hd
  · exact HandSPX.leaving_firstZ Zc.steady hfr hl hf he hB hn hd h1 hz fin
  · exact HandSPX.leaves_onZ Zc.steady hfr hf fl fin
  · exact HandSPX.leaves_heldZ hf hd fin
/-- what a generator's frame wants of exceptions -/
def leavesTo (P : Program) (w : World) (A : Around) (env : Env) (F : Value → Shared → Prop) : Value → Shared → Prop := fun e s' => wpAny (model P w) A (leaving env e) (fun _ s'' => F e s'') (fun _ _ => False) s'
def GRE (X : Cx) (S : Option Addr) (SR : List V → Array Value → Prop) (En : List V → Hp → Prop) (F : Value → Shared → Prop) : GenEnd := fun n s₀ r s =>
  (r = .ok .next ∧ ∃ ys σ H, GIx X S SR ys σ H s ∧ SK S s₀ s ∧ En ys H) ∨ ∃ e, r = .error e ∧ F e s
section
variable {X : Cx} {S : Option Addr} {SR : List V → Array Value → Prop}
theorem seg_fail {A : Around} {c : Code} {n : Nat} {s₀ s' : Shared} {Y : Protocol} {En : List V → Hp → Prop} {F : Value → Shared → Prop} {e : Value} {t : Sem PySem.Fin} (ht : t = (leaving X.env e).bind fun _ => .raise e) (hov : A.over c [] = X.A) (hx : leavesTo X.prog X.w X.A X.env F e s') :
    Seg (model X.prog X.w) A (GRE X S SR En F) Y n s₀ c t [] s' := by
  subst ht
  rw [Sem.bind_eq_wrap]
  refine seg_wrap ?_
  rw [hov]
  refine thnF hx fun _ s'' h => ?_
  exact seg_end (.error e) (.inr ⟨e, rfl, h⟩)
theorem seg_gxE {F : Value → Shared → Prop} {A : Around} {elt tg iter : Expr} {ifs : List Expr} {scope : Scope} {pos : Pos} {it : Addr} {fp : List Addr} {tn : Nat → Heap → Prop} {J : It} {g : TG} {tt : TT} {te : TE} {vs : List Nat} {σ0 : L2.St} {W : Nat → Nat → List V → Hp → Prop} {En : List V → Hp → Prop} {Stp Ctn : List V → V → Hp → Prop}
    (hA : A.deeper X.env = X.A) (hc : X.calm = true) (hxe : X.xe = leavesTo X.prog X.w X.A X.env F) (hco : X.env.scope.isCoroutine = false) (hex : X.ex = fp) (hpn : ∀ p ∈ X.pn, p.1 ∉ fp) (hAp : ApartO X S) (hw : ∀ σ2 : L2.St, wipe σ2 vs = σ0 → ∀ (i : Nat) v, σ0[i]? = some (some v) → σ2[i]? = some (some v))
    (T : Turn X.prog X.w X.K tg J fp it tn) (pg : PG X tg g) (pt : PTs X ifs tt) (pe : PE X elt te) (turn : TurnX J g tt te vs σ0 Stp Ctn En W) :
    ∀ (m i : Nat) (ys : List V) (s₀ s : Shared) (H : Hp) (n : Nat), n + ys.length = sizeLine → GIx X S SR ys σ0 H s → SK S s₀ s → tn i s.heap → (∀ b ∈ fp, H b = none) → W i m ys H →
      Seg (model X.prog X.w) A (GRE X S SR En F) (GYx X S SR fp Stp Ctn) n s₀ (.compLoop (.GeneratorExp elt [⟨tg, iter, ifs, 0⟩] scope pos) 0 (.ref it) .none X.env)
        ((model X.prog X.w).den (.compLoop (.GeneratorExp elt [⟨tg, iter, ifs, 0⟩] scope pos) 0 (.ref it) .none X.env)) [] s := by
  have hov : A.over (.compLoop (.GeneratorExp elt [⟨tg, iter, ifs, 0⟩] scope pos) 0 (.ref it) .none X.env) [] = X.A := over_gx.trans hA
  intro m
  induction m using Nat.strongRecOn with
  | _ m ih =>
  intro i ys s₀ s H n hlen hI hK st hn hW
  have hsp : ∀ {acc : Array Value} {c : Nat}, ∀ p ∈ X.pn ++ spin S acc c, p.1 ∉ fp := fun p hp hb => by
    rcases List.mem_append.mp hp with z | z
    · exact hpn p z hb
    · obtain ⟨e1, _⟩ := spin_mem z
      exact (hAp _ e1).2.2.2.2 (by rw [hex]; exact hb)
  obtain ⟨acc, c, hr, I⟩ := hI
  have keepK : ∀ {pl : List (Addr × Obj)} {σ' : L2.St} {H' : Hp} {s' : Shared}, Inv X (spin S acc c ++ pl) σ' H' s' → SK S s₀ s' := fun {pl σ' H' s'} I' b e => by
    cases e
    have e1 := (I'.pin (b, lstObj acc c) (List.mem_append_right _ (List.mem_append_left _ (List.mem_singleton.mpr rfl)))).1
    have e2 := (I.pin (b, lstObj acc c) (List.mem_append_right _ (List.mem_singleton.mpr rfl))).1
    rw [← hK b rfl, e1, e2]
  show Seg _ A _ _ _ s₀ _ ((compTurn (.GeneratorExp elt [⟨tg, iter, ifs, 0⟩] scope pos) 0 (.ref it) .none X.env).onRaise (leaving X.env)) [] s
  rw [compTurn_gen, Sem.onRaise_eq_wrap]
  refine seg_bind_wrap (wpAny_standAt ?_)
  refine seg_bind_wrap ?_
  rw [hov]
  rcases turn i m ys H hW with ⟨stop, qq⟩ | ⟨go, Nx, hNx, step⟩
  · refine thnF (T.done X rfl rfl rfl hc i _ s _ H (fun _ _ => False) I (gx_stat hex hsp I hn) st stop) fun r s6 ⟨hr6, I6⟩ => ?_
    subst hr6
    exact seg_end (.ok .next) (.inl ⟨rfl, ys, σ0, H, ⟨acc, c, hr, I6⟩, keepK (pl := []) (by rw [List.append_nil]; exact I6), qq⟩)
  · refine thnF (T.item X rfl rfl rfl hc i _ s _ H (fun _ _ => False) I (gx_stat hex hsp I hn) st go) fun r s6 ⟨u, hr6, h6⟩ => ?_
    subst hr6
    refine seg_bind_wrap ?_
    rw [hov]
    refine thnF h6 fun _ s7 ⟨x, H7, I7, r7, y7, st7, n7⟩ => ?_
    have I7' := I7.pinned (gx_stat hex hsp I7 n7) (T.obj _ _ st7)
    refine seg_bind_wrap ?_
    rw [hov]
    have pgr := pg.run _ s7 _ H7 x u _ I7' r7 (step x H7 y7)
    rw [hxe] at pgr
    refine wpAny_mono pgr (fun _ s8 ⟨σ8, H8, I8, hw8, q8⟩ => ?_) fun x sx hx => seg_fail rfl hov hx
    refine seg_bind_wrap ?_
    rw [hov]
    have ptr := pt.run _ s8 σ8 H8 _ I8 q8
    rw [hxe] at ptr
    refine wpAny_mono ptr (fun b s9 ⟨H9, I9, q9⟩ => ?_) fun x sx hx => seg_fail rfl hov hx
    have fin : ∀ {s' : Shared} {H' : Hp}, Inv X (spin S acc c ++ pinsAt fp s7.heap) σ8 H' s' → Inv X (spin S acc c) σ0 H' s' ∧ tn (i + 1) s'.heap ∧ ∀ b ∈ fp, H' b = none := fun {s' H'} I' => by
      have pin' : ∀ b ∈ fp, ∀ o, s7.heap.get? b = some o → s'.heap.get? b = some o ∧ H' b = none := fun b hb o e =>
        let z := I'.pin (b, o) (List.mem_append_right _ (List.mem_append_right _ (mem_pinsAt hb e)))
        ⟨z.1, z.2.1⟩
      have hl : σ0.length = σ8.length := by rw [← hw8, wipe_length]
      refine ⟨(I'.unpinned).weak hl (hw σ8 hw8), T.keep _ _ _ st7 fun b hb o e => (pin' b hb o e).1, fun b hb => ?_⟩
      obtain ⟨o, e, _⟩ := T.obj _ _ st7 b hb
      exact (pin' b hb o e).2
    cases b with
    | false =>
      simp only [Bool.false_eq_true, if_false] at q9 ⊢
      obtain ⟨f1, f2, f3⟩ := fin I9
      obtain ⟨m', hm, w'⟩ := hNx ys H9 q9
      exact seg_again rfl (ih m' hm (i + 1) ys s₀ s9 H9 n hlen ⟨acc, c, hr, f1⟩ (keepK I9) f2 f3 w')
    | true =>
      simp only [if_true] at q9 ⊢
      have hy : ∀ v, yieldOut X.env v = yieldValue v := fun v => by simp only [yieldOut, hco, Bool.false_eq_true, if_false]
      simp only [hy]
      rw [Sem.bind_eq_wrap', Sem.bind_eq_wrap', Sem.wrap_wrap, Sem.wrap_wrap]
      have per := pe.run _ s9 σ8 H9 _ I9 q9
      rw [hxe] at per
      refine seg_wrap ?_
      rw [hov]
      refine wpAny_mono per (fun z s10 ⟨yv, H10, I10, r10, hz10, nx⟩ => ?_) fun x sx hx => seg_fail rfl hov hx
      obtain ⟨f1, f2, f3⟩ := fin I10
      obtain ⟨n', rfl⟩ : ∃ n', n = n' + 1 := ⟨n - 1, by omega⟩
      refine seg_at (seg_yield rfl rfl rfl ⟨ys, yv, σ0, H10, r10, ⟨acc, c, hr, f1⟩, keepK I10, f3, ?_⟩)
      rcases nx with nx | ⟨hC, nx⟩
      · exact .inl nx
      · obtain ⟨m', hm, w'⟩ := hNx _ H10 nx
        refine .inr ⟨hC, fun s'' zz => ?_⟩
        have tn'' : tn (i + 1) s''.heap := T.keep _ _ _ f2 fun b hb o e => zz.keep b o (fun e' => (hAp b e'.symm).2.2.2.2 (by rw [hex]; exact hb)) e
        exact seg_again rfl (ih m' hm (i + 1) _ s'' s'' H10 n' (by rw [List.length_append, List.length_singleton]; omega) (GIx.woken hAp ⟨acc, c, hr, f1⟩ zz) (fun _ _ => rfl) tn'' f3 w')
end
end GxP

set_option Elab.async false
set_option linter.all false
set_option maxRecDepth 100000
set_option maxHeartbeats 4000000
namespace GxP
open PySem PySem.Spec PyProof.Rows L2 GenW LamX Mi
def gxCxE (X : Cx) (A : Around) (s : Shared) (H : Hp) (cenv : Env) (fp : List Addr) (pn : List (Addr × Obj)) (F : Value → Shared → Prop) : Cx :=
  { gxCx X A s H cenv fp pn with xe := leavesTo X.prog X.w (A.deeper cenv) cenv F }
/-- what a part may let out: an exception that the caller takes and that is no StopIteration -/
def XW (K : PySem.W.Frag) (W : WX) (σ : L2.St) : WX := fun cls d _ H' => PySem.W.subIn K cls (.type "StopIteration") = some false ∧ W cls d σ H'
/-- what the consumer meets -/
def FOut (X : Cx) (W : WX) (a : Addr) (go : Obj) : Value → Shared → Prop := fun u s => XE X W u s ∧ s.heap.get? a = some go ∧ NotStop (model X.prog X.w) u s.heap
def RXE (X : Cx) (pins : List (Addr × Obj)) (σ : L2.St) (S : Option Addr) (SR : List V → Array Value → Prop) (a : Addr) (go : Obj) (En : List V → Hp → Prop) (F : Value → Shared → Prop) : GenEnd := fun n s₀ r s1 =>
  ((r = .ok (.ret .none) ∨ r = .ok .next) ∧ FX X pins σ S SR a go En s₀ s1) ∨ ∃ e, r = .error e ∧ F e s1
section
variable {X : Cx} {pins : List (Addr × Obj)} {σ : L2.St} {H : Hp} {s s' : Shared}
/-- pins more in the context, if they hold -/
theorem gx_pinnedE {F : Value → Shared → Prop} {A : Around} {cenv : Env} {fp : List Addr} {pn pins' : List (Addr × Obj)} {H' : Hp} (I : Inv (gxCx X A s H cenv fp []) [] σ H' s')
    (h : ∀ p ∈ pn ++ pins', s'.heap.get? p.1 = some p.2 ∧ H' p.1 = none ∧ p.1 ≠ cenv.locals ∧ p.1 ∉ frs X.stack ∧ ∀ v, p.2.data ≠ .cell v) : Inv (gxCxE X A s H cenv fp pn F) pins' σ H' s' :=
  ⟨⟨I.ok.mod, I.ok.kind, I.ok.glob, I.ok.blt, I.ok.above, I.ok.inj, I.ok.has, I.ok.cab, I.ok.hd, I.ok.frames, I.ok.stk, I.ok.exf, I.ok.bs, I.ok.bsz, I.ok.noex, I.ok.exfs, I.ok.funs, I.ok.frf⟩, I.os, I.bare, I.base, I.loc, I.cell, I.free, I.freeC, h, I.hok, I.len⟩

theorem air_out {A : Around} {W : WX} {H2 : Hp} {s4 s'' : Shared} {scope : Scope} {code : Value} {fp : List Addr} {a : Addr} {go : Obj} {F : Value → Shared → Prop} {u : Value} (I4 : Inv X pins σ H2 s4)
    (hf : ∀ b ∈ fp, (b ∈ X.ex ∨ X.s_0.heap.objs.size ≤ b) ∧ b ≠ X.env.locals ∧ (∀ x c, X.env.cells.lookup x = some c → c ≠ b) ∧ ∀ p ∈ X.pn ++ pins, p.1 ≠ b)
    (x : AirX (gxCxE X A s4 H2 (gxEnv X scope s4.heap.objs.size code) fp [(a, go)] F) (XW X.K W σ) u s'') : FOut X W a go u s'' := by
  obtain ⟨e, B, sI, pinsY, σY, H', cls, d, rfl, J, nb, up, fl, na, os, ag, hns, w⟩ := x
  have nb' : ∀ b o, sI.heap.get? b = some o → b ≠ s4.heap.objs.size → b ∉ frs X.stack → B.get? b = some o := fun b o q h1 h2 => nb b o q fun hm => by
    rcases List.mem_cons.mp (show b ∈ s4.heap.objs.size :: frs X.stack from hm) with z | z
    · exact h1 z
    · exact h2 z
  obtain ⟨G, g1, g2⟩ := restrict s''.heap fun b => (B.get? b).isSome || decide (b ∈ frs X.stack)
  have st : B.StaysIn s''.heap := fl.1
  have gB : ∀ b o, B.get? b = some o → G.get? b = some o := fun b o q => by
    rw [g1 b (by simp [q])]
    exact st b o q
  have gF : ∀ b, b ∈ frs X.stack → G.get? b = s''.heap.get? b := fun b hb => g1 b (by simp [hb])
  have og : ∀ b o, G.get? b = some o → s''.heap.get? b = some o ∧ ((B.get? b).isSome = true ∨ b ∈ frs X.stack) := fun b o q0 => by
    cases q : ((B.get? b).isSome || decide (b ∈ frs X.stack)) with
    | false => rw [g2 b q] at q0; cases q0
    | true =>
      rw [g1 b q] at q0
      exact ⟨q0, by simpa [Bool.or_eq_true] using q⟩
  have hokB : HOk X.prog X.w H' B := J.inGround nb
  have lt4 : ∀ b o, s4.heap.get? b = some o → b ≠ s4.heap.objs.size := fun b o q => Nat.ne_of_lt (Heap.lt_size q)
  have ub : Un (frs X.stack) fp H2 H' s4.heap sI.heap := J.base
  have slotG : ∀ b o, s4.heap.get? b = some o → b ∈ frs X.stack → (∃ sl, sI.heap.get? b = some { o with slots := sl }) → ∃ sl, G.get? b = some { o with slots := sl } := fun b o q hb ⟨sl, q1⟩ => by
    obtain ⟨_, o₀, e₀, hnf⟩ := I4.stack.mem hb
    rw [q] at e₀; cases e₀
    obtain ⟨sl2, q2⟩ := up b _ q1 hnf
    exact ⟨sl2, by rw [gF b hb]; exact q2⟩
  have IG : Inv X pins σ H' { sI with heap := G, gens := s''.gens, drawn := s''.drawn, toks := s''.toks } := by
    refine I4.call' (ch := fp) (show sI.os = s4.os from J.os) ⟨fun b o q n hb hc => gB b o (nb' b o (ub.keep b o q n hb hc) (lt4 b o q) hb), fun b o q n hb hc => slotG b o q hb (ub.slot b o q n hb hc), ub.free, fun b o q hc => ?_, ub.tups, ub.frzs, ub.tbls⟩ (hokB.kept gB) ag hf
    by_cases hb : b ∈ frs X.stack
    · obtain ⟨sl, q1⟩ := slotG b o q hb (ub.slot b o q (I4.stkFree b hb) hb hc)
      exact ⟨_, q1⟩
    · obtain ⟨o', q1⟩ := ub.there b o q hc
      exact ⟨o', gB b o' (nb' b o' q1 (lt4 b o q) hb)⟩
  refine ⟨⟨e, B, { sI with heap := G, gens := s''.gens, drawn := s''.drawn, toks := s''.toks }, pins, σ, H', cls, d, rfl, IG, fun b o q hb => ?_, Heap.UpToSlots.of_keeps fun b o q => (og b o q).1, .inr (.inl fl), na, os, ag, w⟩, ?_, ?_⟩
  · obtain ⟨q', h⟩ := og b o q
    rcases h with h | h
    · obtain ⟨o', z⟩ := Option.isSome_iff_exists.mp h
      have z2 := st b o' z
      rw [q'] at z2; cases z2
      exact z
    · exact absurd h hb
  · obtain ⟨q1, q2, q3, q4, _⟩ := J.pin (a, go) (List.mem_append_left _ (List.mem_singleton.mpr rfl))
    exact st a go (nb' a go q1 q3 q4)
  · have kin : X.K.In s''.heap := IG.kIn.keeps fun b o q => (og b o q).1
    obtain ⟨oe, vs, he, hz, hd⟩ := fl.there
    have L := PySem.W.looks_subIn (M := model X.prog X.w) kin hns
    intro A Q E' s2 hs hq
    simp only [isInstance]
    refine wpAny_bind (wpAny_typeOf_ref (o := oe) (by rw [hs]; exact he) ?_)
    rw [hz.1]
    exact L A Q E' s2 (fun b o z => by rw [hs]; exact z) hq
/-- the parts of a generator expression, in its frame -/
def GxPartsE (X : Cx) (k : Nat) (scope : Scope) (tg elt : Expr) (ifs : List Expr) (g : TG) (tt : TT) (te : TE) (Wf : WX) : Prop :=
  ∀ (A : Around) (s : Shared) (H : Hp) (L : Addr) (code : Value) (fp : List Addr) (pn : List (Addr × Obj)) (F : Value → Shared → Prop), Room k (A.deeper (gxEnv X scope L code)) → Takes (gxCxE X A s H (gxEnv X scope L code) fp pn F) Wf →
    PassesOwn (model X.prog X.w) (A.deeper (gxEnv X scope L code)) (gxEnv X scope L code) (leavesTo X.prog X.w (A.deeper (gxEnv X scope L code)) (gxEnv X scope L code) F) →
    PG (gxCxE X A s H (gxEnv X scope L code) fp pn F) tg g ∧ PTs (gxCxE X A s H (gxEnv X scope L code) fp pn F) ifs tt ∧ PE (gxCxE X A s H (gxEnv X scope L code) fp pn F) elt te
variable {H2 : Hp} {s5 : Shared}
theorem gx_wakeE {W : WX} (tkX : Takes X W) {k : Nat} {elt tg iter : Expr} {ifs : List Expr} {scope : Scope} {own : List (Str × Nat)} {pos : Pos} {J : It} {a : Addr} {g : TG} {tt : TT} {te : TE} (M : GMx X pins σ elt tg iter ifs scope pos J H2 a s5) (G : GxS X scope own) (hN : X.N.Nodup)
    (hp : GxPartsE X k scope tg elt ifs g tt te (XW X.K W σ)) :
    ∃ (gn : Nat) (nm qn : Value) (c : Code), s5.heap.get? a = some (goObj gn nm qn) ∧ s5.gens[gn]? = some (.fresh c) ∧ AllBare s5.gens ∧ s5.heap.NoLimit ∧ a < s5.heap.objs.size ∧
      ∀ (A : Around) (S : Option Addr) (SR : List V → Array Value → Prop) (Stp Ctn : List V → V → Hp → Prop) (En : List V → Hp → Prop) (WI : Nat → Nat → List V → Hp → Prop) (m : Nat) (s2 : Shared), A.frames = some X.stack → A.handled = none → Room (k + 1) A →
        (∀ b, S = some b → s5.heap.objs.size ≤ b) → (∀ b o, s5.heap.get? b = some o → s2.heap.get? b = some o) → (∀ b, S = some b → ∃ acc c, s2.heap.get? b = some (lstObj acc c) ∧ SR [] acc) → s2.os = s5.os → AllBare s2.gens →
        TurnX J g tt te (own.map (·.2)) (wipe σ (own.map (·.2))) Stp Ctn En WI → WI 0 m [] H2 →
        Seg (model X.prog X.w) A (RXE X pins σ S SR a (goObj gn nm qn) En (FOut X W a (goObj gn nm qn))) (YX X pins σ S SR a (goObj gn nm qn) Stp Ctn) sizeLine s2 c ((model X.prog X.w).den c) [] s2 := by
  obtain ⟨s4, fp, it, tn, code, gn, nm, qn, m0, I4, T, st5, hf, os5, b5, kp5, ns5, lta, alt, ga, hg⟩ := M
  refine ⟨gn, nm, qn, _, ga, hg, b5, I4.nolimit.keeps kp5, alt, ?_⟩
  intro A S SR Stp Ctn En WI m s2 hfr hd hr hS kp hSo os2 b2 turn w0
  have kp2 : ∀ b o, s4.heap.get? b = some o → s2.heap.get? b = some o := fun b o e => kp b o (kp5 b o e)
  have sub4 : ∀ {b : Addr}, s4.heap.objs.size < b → H2 b = none ∧ b ≠ s4.heap.objs.size ∧ b ∉ frs X.stack ∧ b ∉ fp ∧ (∀ x c, (cloFrom X.env.cells scope.names []).lookup x = some c → c ≠ b) := fun {b} hb => by
    refine ⟨I4.hok.fresh (Nat.le_of_lt hb), Nat.ne_of_gt hb, fun z => ?_, fun z => ?_, fun x c e z => ?_⟩
    · have hfun := I4.stack.mem z
      obtain ⟨_, o, ho, _⟩ := hfun
      exact absurd (Nat.lt_trans (Heap.lt_size ho) hb) (Nat.lt_irrefl _)
    · exact absurd (Nat.lt_trans (hf b z).2 hb) (Nat.lt_irrefl _)
    · rcases cloFrom_mem (PySem.mem_of_lookup e) with hm | ⟨h1, h2⟩
      · cases hm
      · have hfree : ∃ c, X.env.cells.lookup x = some c := by
          rcases G.blk.free _ h1 rfl with k | k
          · exact I4.ok.has _ (.inl k)
          · exact I4.ok.has _ (.inr k)
        obtain ⟨c1, hc⟩ := hfree
        have e2 : c = c1 := by
          rw [h2, hc] <;> rfl
        obtain ⟨w, q⟩ := I4.cell _ _ hc
        have := q.lt
        rw [← e2, z] at this
        exact absurd (Nat.lt_trans this hb) (Nat.lt_irrefl _)
  have ns2 : s2.heap.Ns s4.heap.objs.size m0 := ns5.keeps kp
  have I0 := gx_start (A := A) (code := code) (s' := s2) I4 G.blk G.cell hN hf hfr hd (os2.trans os5) b2 kp2 ns2
  have ga2 : s2.heap.get? a = some (goObj gn nm qn) := kp a _ ga
  have ya := sub4 lta
  have yS : ∀ b, S = some b → s4.heap.objs.size < b := fun b e => Nat.lt_trans lta (Nat.lt_of_lt_of_le alt (hS b e))
  have st2 : tn 0 s2.heap := T.keep _ _ _ st5 fun b _ o e => kp b o e
  -- what holds in the frame holds for the caller
  have out : ∀ {ys : List V} {σ' : L2.St} {H' : Hp} {s1 : Shared}, GIx (gxCxE X A s4 H2 (gxEnv X scope s4.heap.objs.size code) fp [(a, goObj gn nm qn)] (FOut X W a (goObj gn nm qn))) S SR ys σ' H' s1 → Inv X pins σ H' s1 ∧ s1.heap.get? a = some (goObj gn nm qn) ∧ SAt S SR ys H' s1 := fun {ys σ' H' s1} hI => by
    obtain ⟨acc, c, hsr, J1⟩ := hI
    refine ⟨I4.call' (ch := fp) J1.os J1.base J1.hok J1.bare fun b hb => ⟨(hf b hb).1.2.2.2.1, (hf b hb).1.2.1, (hf b hb).1.2.2.2.2.1, (hf b hb).1.2.2.2.2.2⟩, (J1.pin (a, goObj gn nm qn) (List.mem_append_left _ (List.mem_singleton.mpr rfl))).1, fun b e => ?_⟩
    cases e
    obtain ⟨q1, q2, _⟩ := J1.pin (b, lstObj acc c) (List.mem_append_right _ (List.mem_singleton.mpr rfl))
    exact ⟨q2, acc, c, q1, hsr b rfl⟩
  have hG : GIx (gxCxE X A s4 H2 (gxEnv X scope s4.heap.objs.size code) fp [(a, goObj gn nm qn)] (FOut X W a (goObj gn nm qn))) S SR [] (wipe σ (own.map (·.2))) H2 s2 := by
    cases S with
    | none =>
      refine ⟨#[], 0, (fun b e => nomatch e), gx_pinnedE I0 fun p hp => ?_⟩
      rcases List.mem_append.mp hp with z | z
      · rw [List.mem_singleton.mp z]
        exact ⟨ga2, ya.1, ya.2.1, ya.2.2.1, fun v q => by cases q⟩
      · cases z
    | some b =>
      obtain ⟨acc, c, eS, hsr⟩ := hSo b rfl
      have yb := sub4 (yS b rfl)
      refine ⟨acc, c, (fun _ _ => hsr), gx_pinnedE I0 fun p hp => ?_⟩
      rcases List.mem_append.mp hp with z | z
      · rw [List.mem_singleton.mp z]
        exact ⟨ga2, ya.1, ya.2.1, ya.2.2.1, fun v q => by cases q⟩
      · rw [List.mem_singleton.mp z]
        exact ⟨eS, yb.1, yb.2.1, yb.2.2.1, fun v q => by cases q⟩
  have hAp : ApartO (gxCxE X A s4 H2 (gxEnv X scope s4.heap.objs.size code) fp [(a, goObj gn nm qn)] (FOut X W a (goObj gn nm qn))) S := fun b e => by
    have yb := sub4 (yS b e)
    refine ⟨Nat.le_of_lt (yS b e), yb.2.1, yb.2.2.2.2, fun p hp => ?_, yb.2.2.2.1⟩
    rw [List.mem_singleton.mp hp]
    exact Nat.ne_of_lt (Nat.lt_of_lt_of_le alt (hS b e))
  have tkY : Takes (gxCxE X A s4 H2 (gxEnv X scope s4.heap.objs.size code) fp [(a, goObj gn nm qn)] (FOut X W a (goObj gn nm qn))) (XW X.K W σ) := fun u s' x =>
    wpAny_mono (air_leave (E₁ := fun _ _ => False) rfl rfl x) (fun _ s'' z => air_out I4 (fun b hb => ⟨(hf b hb).1.2.2.2.1, (hf b hb).1.2.1, (hf b hb).1.2.2.2.2.1, (hf b hb).1.2.2.2.2.2⟩) z) fun _ _ z => z
  obtain ⟨pg, pt, pe⟩ := hp A s4 H2 s4.heap.objs.size code fp [(a, goObj gn nm qn)] (FOut X W a (goObj gn nm qn)) (hr.deeper _) tkY PassesOwn.leaving
  refine seg_imp (R := GRE (gxCxE X A s4 H2 (gxEnv X scope s4.heap.objs.size code) fp [(a, goObj gn nm qn)] (FOut X W a (goObj gn nm qn))) S SR En (FOut X W a (goObj gn nm qn))) (Y := GYx (gxCxE X A s4 H2 (gxEnv X scope s4.heap.objs.size code) fp [(a, goObj gn nm qn)] (FOut X W a (goObj gn nm qn))) S SR fp Stp Ctn) (fun n s₀ r s1 hR => ?_) (fun n s₀ v s1 kap kap' hkk hY => ?_) sizeLine ?_
  · rcases hR with ⟨rfl, ys, σ', H', hI, hK, hE⟩ | ⟨e, rfl, he⟩
    · obtain ⟨o1, o2, o3⟩ := out hI
      exact .inl ⟨.inr rfl, ys, H', o1, hK, o2, o3, hE⟩
    · exact .inr ⟨e, rfl, he⟩
  · obtain ⟨ys, y, σ', H', rv, hI, hK, hn, hSC⟩ := hY
    obtain ⟨o1, o2, o3⟩ := out hI
    refine ⟨ys, y, H', rv, o1, hK, o2, o3, ?_⟩
    rcases hSC with q | ⟨q1, q2⟩
    · exact .inl q
    · exact .inr ⟨q1, fun s'' z => hkk _ _ (q2 s'' z)⟩
  · refine seg_gx0 (X := gxCxE X A s4 H2 (gxEnv X scope s4.heap.objs.size code) fp [(a, goObj gn nm qn)] (FOut X W a (goObj gn nm qn))) T st2 ?_
    refine seg_gxE (X := gxCxE X A s4 H2 (gxEnv X scope s4.heap.objs.size code) fp [(a, goObj gn nm qn)] (FOut X W a (goObj gn nm qn))) rfl rfl rfl G.co rfl (fun p hp => ?_) hAp (fun σ2 e i v q => ?_) T pg pt pe turn m 0 [] s2 s2 H2 sizeLine rfl hG (fun _ _ => rfl) st2 (fun b hb => (hf b hb).1.1) w0
    · rw [List.mem_singleton.mp hp]
      exact ya.2.2.2.1
    · rw [← e] at q
      exact (wipe_some q).1
end
end GxP

set_option Elab.async false
set_option linter.all false
set_option maxRecDepth 100000
set_option maxHeartbeats 4000000
namespace GxP
open PySem PySem.Spec PyProof.Rows L2 GenW LamX Mi
section
variable {X : Cx} {pins : List (Addr × Obj)} {σ : L2.St}
theorem xe_setGen {W : WX} {u : Value} {s : Shared} {g : Nat} {x : GenState} (h : XE X W u s) (hx : x.bare = true := by rfl) : XE X W u (s.setGen g x) := by
  obtain ⟨a, B, sI, pins, σ, H, cls, d, e, I, nb, up, sky, na, os, ag, w⟩ := h
  exact ⟨a, B, sI, pins, σ, H, cls, d, e, I, nb, up, sky, na, os, allBare_setGen ag hx, w⟩
/-- the generator waits for its next wake -/
def GStE (W : WX) (X : Cx) (pins : List (Addr × Obj)) (σ : L2.St) (S : Option Addr) (SR : List V → Array Value → Prop) (Stp Ctn : List V → V → Hp → Prop) (En : List V → Hp → Prop) (a : Addr) (gn : Nat) (nm qn : Value) (A : Around) (n : Nat) (s : Shared) : Prop :=
  s.heap.get? a = some (goObj gn nm qn) ∧ s.heap.NoLimit ∧ AllBare s.gens ∧ ∃ gs, s.gens[gn]? = some gs ∧ gs.Goes (model X.prog X.w) A.in1 (RXE X pins σ S SR a (goObj gn nm qn) En (FOut X W a (goObj gn nm qn))) (YX X pins σ S SR a (goObj gn nm qn) Stp Ctn) n (.send .none) (s.setGen gn .running)
theorem next_gxE {W : WX} {S : Option Addr} {SR : List V → Array Value → Prop} {Stp Ctn : List V → V → Hp → Prop} {En : List V → Hp → Prop} {a : Addr} {gn : Nat} {nm qn : Value} {A : Around} {n : Nat} {s : Shared} {Q : Option Value → Shared → Prop} {E : Value → Shared → Prop} (hh : A.handled = none) (hd : A.depth < recursionLimit)
    (G : GStE W X pins σ S SR Stp Ctn En a gn nm qn A n s)
    (hY : ∀ ys y H v s1, RelV y v → Inv X pins σ H s1 → SK S s s1 → SAt S SR ys H s1 → (∀ b, S = some b → b ≠ a) →
      (Stp ys y H ∨ (Ctn ys y H ∧ ∀ s2, s2.gens = s1.gens → SleptR S SR (ys ++ [y]) s1 s2 → s2.heap.NoLimit → ∃ n', n = n' + 1 ∧ GStE W X pins σ S SR Stp Ctn En a gn nm qn A n' s2)) → Q (some v) s1)
    (hE : ∀ ys H s1, Inv X pins σ H s1 → SK S s s1 → SAt S SR ys H s1 → En ys H → Q none s1)
    (hX : ∀ e s1, XE X W e s1 → E e s1) : wpAny (model X.prog X.w) A (pyNext (.ref a)) Q E s := by
  obtain ⟨ga, lim, hb, gs, hgs, hgo⟩ := G
  have hgl : gn < s.gens.size := (Array.getElem?_eq_some_iff.mp hgs).1
  have isg : s.heap.IsGen a gn := ⟨_, nm, qn, ga, rfl, rfl, rfl⟩
  refine wpAny_gsz (n := gn + 1) hgl (next_genG (A := A) (F := fun n s₀ s1 => FX X pins σ S SR a (goObj gn nm qn) En s₀ s1) (Er := FOut X W a (goObj gn nm qn)) hh lim hd isg hgs hgo (fun v s₁ gs' hbare hv => ?_) (fun s₁ hp h' hk => ?_) fun e s₁ he => ⟨⟨_, nm, qn, he.2.1, rfl, rfl, rfl⟩, he.2.2, fun _ => hX e _ (xe_setGen he.1)⟩)
  · intro hsz
    obtain ⟨ys, y, H, rv, I, hK, ga1, hS, hSC⟩ := hv
    have hsz1 : gn < s₁.gens.size := by
      have q : (s₁.setGen gn gs').gens.size = s₁.gens.size := setGen_size _ _ _
      have hsz' : gn + 1 ≤ (s₁.setGen gn gs').gens.size := hsz
      omega
    have hne : ∀ b, S = some b → b ≠ a := fun b e z => by
      obtain ⟨_, acc, c, q, _⟩ := hS b e
      rw [z, ga1] at q
      have e1 := congrArg Obj.cls (Option.some.inj q)
      have e2 : ("generator" : String) = "list" := Value.type.inj e1
      exact absurd e2 (by decide)
    refine hY ys y H v _ rv (inv_setGen I hbare) hK hS hne ?_
    rcases hSC with q | ⟨q, hk⟩
    · exact .inl q
    · refine .inr ⟨q, fun s2 hg2 sl lim2 => ?_⟩
      have ga2 : s2.heap.get? a = some (goObj gn nm qn) := sl.keep a _ (fun e => hne a e.symm rfl) ga1
      have b2 : AllBare s2.gens := sl.bare
      have sl' : SleptR S SR (ys ++ [y]) s₁ (s2.setGen gn .running) := ⟨sl.os, allBare_setGen b2 rfl, sl.keep, sl.own⟩
      have hk' := hk _ sl'
      cases n with
      | zero => exact hk'.elim
      | succ n' => exact ⟨n', rfl, ga2, lim2, b2, gs', by rw [hg2]; exact setGen_at hsz1, hk'⟩
  · intro hsz
    obtain ⟨ys, H, I, hK, ga1, hS, hEn⟩ := hp
    have J : Inv X pins σ H { s₁.setGen gn .finished with heap := h' } := Inv.kept (t' := s₁.toks) (h' := h') (inv_setGen (g := gn) (x := .finished) I rfl) hk
    exact hE ys H _ J (fun b e => by
      obtain ⟨_, acc, c, q, _⟩ := hS b e
      have q0 : s₁.heap.get? b = s.heap.get? b := hK b e
      show h'.get? b = s.heap.get? b
      rw [← q0, q]
      exact hk _ _ q) (fun b e => by
      obtain ⟨q0, acc, c, q, r⟩ := hS b e
      exact ⟨q0, acc, c, hk _ _ q, r⟩) hEn
/-- any.loop, all.loop: the items are truths; the loop ends at the first one that is bb -/
theorem any_gxE {W : WX} {R : Result → Shared → Prop} {QT QF : Hp → Prop} {a : Addr} {gn : Nat} {nm qn : Value} {A : Around} (hh : A.handled = none) (hd : A.depth < recursionLimit)
    (hT : ∀ H s', Inv X pins σ H s' → QT H → R (.ok (.ret (.bool true))) s') (hF : ∀ H s', Inv X pins σ H s' → QF H → R (.ok (.ret (.bool false))) s') (hX : ∀ e s', XE X W e s' → R (.error e) s') :
    ∀ (n : Nat) (s : Shared), GStE W X pins σ none (fun _ _ => True) (fun _ y H => y = .bl true ∧ QT H) (fun _ y H => y = .bl false) (fun _ H => QF H) a gn nm qn A.in1 n s → codeAny (model X.prog X.w) A (.builtin "any.loop" ⟨[.ref a], []⟩) R s := by
  intro n
  induction n with
  | zero =>
    intro s G
    refine codeAny_builtin F.entry_any_loop ?_
    rw [Around.under_plainId F.plain_any_loop _]
    show wpAny _ A.in1 (pyNext (.ref a) >>= _) _ _ s
    refine wpAny_bind (next_gxE (A := A.in1) hh hd G (fun ys y H v s1 rv I hK hS hne hSC => ?_) (fun ys H s1 I hK hS hEn => ?_) fun e s1 he => hX e s1 he)
    · rcases hSC with ⟨rfl, q⟩ | ⟨rfl, hk⟩
      · cases (show v = Value.bool true from rv)
        refine wpAny_bind (wpAny_holding (wpAny_truthy_bool ?_))
        refine wpAny_bind (wpAny_letGo ?_)
        simp only [if_true]
        exact wpAny_bind (wpAny_rule (wpAny_pure (hT H _ I q)))
      · obtain ⟨n', e, _⟩ := hk s1 rfl ⟨rfl, I.bare, fun b o _ e => e, fun b e => nomatch e⟩ I.nolimit
        cases e
    · exact wpAny_bind (wpAny_rule (wpAny_pure (hF H _ I hEn)))
  | succ n ih =>
    intro s G
    refine codeAny_builtin F.entry_any_loop ?_
    rw [Around.under_plainId F.plain_any_loop _]
    show wpAny _ A.in1 (pyNext (.ref a) >>= _) _ _ s
    refine wpAny_bind (next_gxE (A := A.in1) hh hd G (fun ys y H v s1 rv I hK hS hne hSC => ?_) (fun ys H s1 I hK hS hEn => ?_) fun e s1 he => hX e s1 he)
    · rcases hSC with ⟨rfl, q⟩ | ⟨rfl, hk⟩
      · cases (show v = Value.bool true from rv)
        refine wpAny_bind (wpAny_holding (wpAny_truthy_bool ?_))
        refine wpAny_bind (wpAny_letGo ?_)
        simp only [if_true]
        exact wpAny_bind (wpAny_rule (wpAny_pure (hT H _ I q)))
      · cases (show v = Value.bool false from rv)
        obtain ⟨n', e, G'⟩ := hk s1 rfl ⟨rfl, I.bare, fun b o _ e => e, fun b e => nomatch e⟩ I.nolimit
        cases e
        refine wpAny_bind (wpAny_holding (wpAny_truthy_bool ?_))
        refine wpAny_bind (wpAny_letGo ?_)
        simp only [Bool.false_eq_true, if_false]
        exact wpAny_pure ⟨plainId_quiet F.plain_any_loop _, ih s1 G'⟩
    · exact wpAny_bind (wpAny_rule (wpAny_pure (hF H _ I hEn)))
/-- all.loop -/
theorem all_gxE {W : WX} {R : Result → Shared → Prop} {QT QF : Hp → Prop} {a : Addr} {gn : Nat} {nm qn : Value} {A : Around} (hh : A.handled = none) (hd : A.depth < recursionLimit)
    (hT : ∀ H s', Inv X pins σ H s' → QT H → R (.ok (.ret (.bool true))) s') (hF : ∀ H s', Inv X pins σ H s' → QF H → R (.ok (.ret (.bool false))) s') (hX : ∀ e s', XE X W e s' → R (.error e) s') :
    ∀ (n : Nat) (s : Shared), GStE W X pins σ none (fun _ _ => True) (fun _ y H => y = .bl false ∧ QF H) (fun _ y H => y = .bl true) (fun _ H => QT H) a gn nm qn A.in1 n s → codeAny (model X.prog X.w) A (.builtin "all.loop" ⟨[.ref a], []⟩) R s := by
  intro n
  induction n with
  | zero =>
    intro s G
    refine codeAny_builtin F.entry_all_loop ?_
    rw [Around.under_plainId F.plain_all_loop _]
    show wpAny _ A.in1 (pyNext (.ref a) >>= _) _ _ s
    refine wpAny_bind (next_gxE (A := A.in1) hh hd G (fun ys y H v s1 rv I hK hS hne hSC => ?_) (fun ys H s1 I hK hS hEn => ?_) fun e s1 he => hX e s1 he)
    · rcases hSC with ⟨rfl, q⟩ | ⟨rfl, hk⟩
      · cases (show v = Value.bool false from rv)
        refine wpAny_bind (wpAny_holding (wpAny_truthy_bool ?_))
        refine wpAny_bind (wpAny_letGo ?_)
        simp only [Bool.false_eq_true, if_false]
        exact wpAny_bind (wpAny_rule (wpAny_pure (hF H _ I q)))
      · obtain ⟨n', e, _⟩ := hk s1 rfl ⟨rfl, I.bare, fun b o _ e => e, fun b e => nomatch e⟩ I.nolimit
        cases e
    · exact wpAny_bind (wpAny_rule (wpAny_pure (hT H _ I hEn)))
  | succ n ih =>
    intro s G
    refine codeAny_builtin F.entry_all_loop ?_
    rw [Around.under_plainId F.plain_all_loop _]
    show wpAny _ A.in1 (pyNext (.ref a) >>= _) _ _ s
    refine wpAny_bind (next_gxE (A := A.in1) hh hd G (fun ys y H v s1 rv I hK hS hne hSC => ?_) (fun ys H s1 I hK hS hEn => ?_) fun e s1 he => hX e s1 he)
    · rcases hSC with ⟨rfl, q⟩ | ⟨rfl, hk⟩
      · cases (show v = Value.bool false from rv)
        refine wpAny_bind (wpAny_holding (wpAny_truthy_bool ?_))
        refine wpAny_bind (wpAny_letGo ?_)
        simp only [Bool.false_eq_true, if_false]
        exact wpAny_bind (wpAny_rule (wpAny_pure (hF H _ I q)))
      · cases (show v = Value.bool true from rv)
        obtain ⟨n', e, G'⟩ := hk s1 rfl ⟨rfl, I.bare, fun b o _ e => e, fun b e => nomatch e⟩ I.nolimit
        cases e
        refine wpAny_bind (wpAny_holding (wpAny_truthy_bool ?_))
        refine wpAny_bind (wpAny_letGo ?_)
        simp only [if_true]
        exact wpAny_pure ⟨plainId_quiet F.plain_all_loop _, ih s1 G'⟩
    · exact wpAny_bind (wpAny_rule (wpAny_pure (hT H _ I hEn)))
theorem ext_gxE {W : WX} {R : Result → Shared → Prop} {En : List V → Hp → Prop} {S a : Addr} {gn : Nat} {nm qn res : Value} {A : Around} (hh : A.handled = none) (hd : A.depth < recursionLimit)
    (hR : ∀ ys H s' acc c, Inv X pins σ H s' → H S = none → s'.heap.get? S = some (lstObj acc c) → Vals ys acc.toList → En ys H → R (.ok (.ret res)) s') (hX : ∀ e s', XE X W e s' → R (.error e) s') :
    ∀ (n : Nat) (s : Shared), GStE W X pins σ (some S) SRlst (fun _ _ _ => False) CtnLst En a gn nm qn A.in1 n s → codeAny (model X.prog X.w) A (.builtin "list.extend.loop" ⟨[.ref S, .ref a, res], []⟩) R s := by
  have go : ∀ (n : Nat) (s : Shared), (∀ n' s2, n = n' + 1 → GStE W X pins σ (some S) SRlst (fun _ _ _ => False) CtnLst En a gn nm qn A.in1 n' s2 → codeAny (model X.prog X.w) A (.builtin "list.extend.loop" ⟨[.ref S, .ref a, res], []⟩) R s2) →
      GStE W X pins σ (some S) SRlst (fun _ _ _ => False) CtnLst En a gn nm qn A.in1 n s → codeAny (model X.prog X.w) A (.builtin "list.extend.loop" ⟨[.ref S, .ref a, res], []⟩) R s := by
    intro n s ih G
    refine codeAny_builtin F.entry_extend_loop ?_
    rw [Around.under_plainId F.plain_extend_loop _]
    show wpAny _ A.in1 (pyNext (.ref a) >>= _) _ _ s
    refine wpAny_bind (next_gxE (A := A.in1) hh hd G (fun ys y H v s1 rv I hK hS hne hSC => ?_) (fun ys H s1 I hK hS hEn => ?_) fun e s1 he => hX e s1 he)
    · rcases hSC with q | ⟨hlt, hk⟩
      · exact q.elim
      · obtain ⟨hn0, acc, c, eS, sr⟩ := hS S rfl
        have hlt : ys.length < sizeLine := hlt
        have sr : Vals ys acc.toList := sr
        have hasz : acc.size < sizeLine := by
          have e1 := sr.length
          have e2 : acc.toList.length = acc.size := by simp
          omega
        show wpAny _ A.in1 (updateSeq S (·.push v) >>= _) _ _ _
        refine wpAny_bind ?_
        have keepB : ∀ (f : Obj → Obj) b o, some b ≠ some S → s1.heap.get? b = some o → (s1.heap.update S f).get? b = some o := fun f b o hb e => (Heap.get?_update_other _ _ (fun z : S = b => hb (by rw [z]))).trans e
        refine wpAny_updateSeq eS rfl (wpAny_pure ⟨plainId_quiet F.plain_extend_loop _, ?_⟩) (Nat.le_of_lt hasz) (by show (acc.push v).size ≤ sizeLine + 1; rw [Array.size_push]; omega)
        have eS2 := Heap.get?_update_self (Obj.mapSeq (·.push v)) eS rfl
        have lim2 : (s1.heap.update S (Obj.mapSeq (·.push v))).NoLimit := by
          obtain ⟨mc, hns, hnn⟩ := I.nolimit
          refine ⟨mc, hns.at' fun o e => keepB _ _ o (fun z => ?_) e, hnn⟩
          obtain ⟨oo, es, ep, ho, hdd, _⟩ := hns
          rw [Option.some.inj z, eS] at ho
          have e1 := congrArg Obj.data (Option.some.inj ho)
          rw [hdd] at e1
          cases e1
        have sr2 : SRlst (ys ++ [y]) (acc.push v) := by
          show Vals (ys ++ [y]) (acc.push v).toList
          rw [Array.toList_push]
          exact sr.append (.cons rv .nil)
        obtain ⟨n', e, G'⟩ := hk { s1 with heap := s1.heap.update S (Obj.mapSeq (·.push v)) } rfl ⟨rfl, I.bare, fun b o hb e => keepB _ b o hb e, fun b e => by cases e; exact ⟨_, _, eS2, sr2⟩⟩ lim2
        exact ih n' _ e G'
    · obtain ⟨hn0, acc, c, eS, sr⟩ := hS S rfl
      exact wpAny_pure (hR ys H _ acc c I hn0 eS sr hEn)
  intro n
  induction n with
  | zero => exact fun s => go 0 s fun n' s2 e => by cases e
  | succ n ih => exact fun s => go (n + 1) s fun n' s2 e => by cases e; exact ih s2
theorem collect_gxE {W : WX} {Q : List Value → Shared → Prop} {E : Value → Shared → Prop} {En : List V → Hp → Prop} {a : Addr} {gn : Nat} {nm qn : Value} {A : Around} {s : Shared} (hh : A.handled = none) (hd : A.depth < recursionLimit) (ga : s.heap.get? a = some (goObj gn nm qn)) (alt : a < s.heap.objs.size)
    (gst : ∀ s2, (∀ b, some s.heap.objs.size = some b → s.heap.objs.size ≤ b) → (∀ b o, s.heap.get? b = some o → s2.heap.get? b = some o) → (∀ b, some s.heap.objs.size = some b → ∃ acc c, s2.heap.get? b = some (lstObj acc c) ∧ SRlst [] acc) → s2.os = s.os → s2.gens = s.gens →
      GStE W X pins σ (some s.heap.objs.size) SRlst (fun _ _ _ => False) CtnLst En a gn nm qn A.in1 sizeLine s2)
    (hQ : ∀ ys H s' (acc : Array Value), Inv X pins σ H s' → Vals ys acc.toList → En ys H → Q acc.toList s') (hX : ∀ e s', XE X W e s' → E e s') : wpAny (model X.prog X.w) A (collect (.ref a)) Q E s := by
  have hSI : s.heap.objs.size ≠ a := Nat.ne_of_gt alt
  have gty : ∀ {h : Heap}, (∀ b o, s.heap.get? b = some o → h.get? b = some o) → h.IsGen a gn := fun {h} q => ⟨_, nm, qn, q _ _ ga, rfl, rfl, rfl⟩
  have k1 : ∀ b o, s.heap.get? b = some o → (s.heap.push { cls := .type "list", data := .seq ([] : List Value).toArray }).get? b = some o := fun b o e => Heap.get?_push_of_some _ e
  unfold collect
  refine wpAny_bind (wpAny_runValue (codeAny_builtin F.entry_proto_collect ?_))
  rw [Around.under_plainId F.plain_proto_collect _]
  show wpAny _ A.in1 (newList [] >>= fun l => again (.builtin "list.__iadd__" ⟨[l, .ref a], []⟩)) _ _ s
  refine wpAny_bind (wpAny_newObj_type ?_)
  refine wpAny_pure ⟨plainId_quiet F.plain_list_iadd _, codeAny_builtin F.entry_list_iadd ?_⟩
  rw [Around.under_plainId F.plain_list_iadd _]
  show wpAny _ A.in1 (Builtin.List.listExtendWith (.ref s.heap.objs.size) (.ref a) (.ref s.heap.objs.size)) _ _ _
  unfold Builtin.List.listExtendWith
  refine wpAny_bind (wpAny_typeOf (Heap.IsGen.typeIs (s := { s with heap := _ }) (gty k1)) ?_)
  have h1 : Builtin.List.listSameRef (.ref s.heap.objs.size) (.ref a) = false := by simp [Builtin.List.listSameRef, hSI]
  have h2 : (Value.type "generator" == Value.type "list") = false := by decide
  have h3 : (Value.type "generator" == Value.type "tuple") = false := by decide
  simp only [h1, h2, h3, Bool.or_false, Bool.false_eq_true, if_false]
  refine wpAny_bind (wpAny_pyIter_gen (s := { s with heap := _ }) (gty k1) ?_)
  refine wpAny_bind (wpAny_holding ?_)
  unfold Builtin.List.listLengthHint
  refine wpAny_bind (wpAny_specialOf (Heap.IsGen.typeIs (s := { s with heap := _ }) (gty k1)) F.gen_no_len ?_)
  show wpAny _ A.in1 (specialOf (Value.ref a) (Str.ofString "__length_hint__") >>= _) _ _ _
  refine wpAny_bind (wpAny_specialOf (Heap.IsGen.typeIs (s := { s with heap := _ }) (gty k1)) F.gen_no_hint ?_)
  refine wpAny_pure ?_
  show wpAny _ A.in1 (rule "list.extend.makes-room" >>= fun _ => Builtin.List.listTouch (.ref s.heap.objs.size) >>= fun _ =>
    again (.builtin "list.extend.loop" ⟨[.ref s.heap.objs.size, .ref a, .ref s.heap.objs.size], []⟩)) _ _ _
  refine wpAny_bind (wpAny_rule ?_)
  have hS1 : (s.heap.push { cls := .type "list", data := .seq ([] : List Value).toArray }).get? s.heap.objs.size = some { cls := .type "list", data := .seq ([] : List Value).toArray } := Heap.get?_push_size _ rfl
  refine wpAny_bind ?_
  show wpAny _ A.in1 (updateSeq s.heap.objs.size (·.push .none) >>= fun _ => updateSeq s.heap.objs.size (·.pop)) _ _ _
  refine wpAny_bind (wpAny_updateSeq hS1 rfl ?_)
  have hS2 := Heap.get?_update_self (Obj.mapSeq (·.push Value.none)) hS1 rfl
  refine wpAny_updateSeq hS2 rfl ?_
  have hS3 := Heap.get?_update_self (Obj.mapSeq (·.pop)) hS2 rfl
  have oth : ∀ b o, s.heap.get? b = some o →
      (((s.heap.push { cls := .type "list", data := .seq ([] : List Value).toArray }).update s.heap.objs.size (Obj.mapSeq (·.push Value.none))).update s.heap.objs.size (Obj.mapSeq (·.pop))).get? b = some o := fun b o e => by
    have hb : s.heap.objs.size ≠ b := Ne.symm (Nat.ne_of_lt (Heap.lt_size e))
    exact (Heap.get?_update_other _ _ hb).trans ((Heap.get?_update_other _ _ hb).trans (k1 b o e))
  refine wpAny_pure ⟨plainId_quiet F.plain_extend_loop _, ext_gxE (A := A) (En := En) (W := W) hh hd (fun ys H s' acc c I hn hS hv hE => ?_) (fun e s' he => hX e s' he) sizeLine _ (gst _ (fun b e => by cases e; exact Nat.le_refl _) oth (fun b e => by cases e; exact ⟨_, _, hS3, .nil⟩) rfl rfl)⟩
  show wpAny _ A (load s.heap.objs.size >>= _) _ _ s'
  refine wpAny_bind (wpAny_load hS ?_)
  exact wpAny_pure (hQ ys H s' acc I hv hE)
end
end GxP

set_option Elab.async false
set_option linter.all false
set_option maxRecDepth 100000
set_option maxHeartbeats 4000000
namespace GxP
open PySem PySem.Spec PyProof.Rows L2 GenW LamX Mi
def tAnyGxE (K : PySem.W.Frag) (W : WX) (T : List (Addr × Str)) (wi : TI) (g : TG) (tt : WX → TT) (te : WX → TE) (vs : List Nat) : TE := fun σ H Q => tGx T wi g (tt (XW K W σ)) (te (XW K W σ)) vs (fun _ y H => y = .bl true ∧ Q (.bl true) H) (fun _ y _ => y = .bl false) (fun _ H => Q (.bl false) H) σ H
def tAllGxE (K : PySem.W.Frag) (W : WX) (T : List (Addr × Str)) (wi : TI) (g : TG) (tt : WX → TT) (te : WX → TE) (vs : List Nat) : TE := fun σ H Q => tGx T wi g (tt (XW K W σ)) (te (XW K W σ)) vs (fun _ y H => y = .bl false ∧ Q (.bl false) H) (fun _ y _ => y = .bl true) (fun _ H => Q (.bl true) H) σ H
def tTupGxE (K : PySem.W.Frag) (W : WX) (T : List (Addr × Str)) (wi : TI) (g : TG) (tt : WX → TT) (te : WX → TE) (vs : List Nat) : TE := fun σ H Q => tGx T wi g (tt (XW K W σ)) (te (XW K W σ)) vs (fun _ _ _ => False) CtnLst (fun ys H => ys.length ≤ sizeLine ∧ ∀ p, H p = none → Q (.ref p) (upd H p (.tup ys))) σ H
section
variable {X : Cx} {pins : List (Addr × Obj)} {σ : L2.St} {T : List (Addr × Str)} {c P : Addr} {elt tg iter : Expr} {ifs : List Expr} {gpos p pos : Pos} {scope : Scope} {own : List (Str × Nat)} {wi : TI} {g : TG} {k : Nat}
theorem gx_gstE {tt : TT} {te : TE} {Wo : WX} (tkX : Takes X Wo) {S : Option Addr} {SR : List V → Array Value → Prop} {Stp Ctn : List V → V → Hp → Prop} {En : List V → Hp → Prop} {J : It} {H2 : Hp} {a : Addr} {s5 : Shared} {W : Nat → Nat → List V → Hp → Prop} {m : Nat} {A : Around} (M : GMx X pins σ elt tg iter ifs scope gpos J H2 a s5) (G : GxS X scope own) (hN : X.N.Nodup)
    (hp : GxPartsE X k scope tg elt ifs g tt te (XW X.K Wo σ)) (hfr : A.frames = some X.stack) (hd : A.handled = none) (hr : Room (k + 1) A.in1) (turn : TurnX J g tt te (own.map (·.2)) (wipe σ (own.map (·.2))) Stp Ctn En W) (w0 : W 0 m [] H2) :
    ∃ gn nm qn, s5.heap.get? a = some (goObj gn nm qn) ∧ s5.heap.NoLimit ∧ AllBare s5.gens ∧ a < s5.heap.objs.size ∧ ∀ s2, (∀ b, S = some b → s5.heap.objs.size ≤ b) → (∀ b o, s5.heap.get? b = some o → s2.heap.get? b = some o) → (∀ b, S = some b → ∃ acc c, s2.heap.get? b = some (lstObj acc c) ∧ SR [] acc) → s2.os = s5.os → s2.gens = s5.gens →
      GStE Wo X pins σ S SR Stp Ctn En a gn nm qn A sizeLine s2 := by
  obtain ⟨gn, nm, qn, cc, ga, hg, b5, lim, alt, wake⟩ := gx_wakeE tkX M G hN hp
  refine ⟨gn, nm, qn, ga, lim, b5, alt, fun s2 h1 h2 h3 h4 h5 => ⟨h2 _ _ ga, lim.keeps h2, by rw [h5]; exact b5, .fresh cc, by rw [h5]; exact hg, ?_⟩⟩
  refine ⟨rfl, ?_⟩
  exact wake A.in1 S SR Stp Ctn En W m _ hfr hd hr h1 h2 h3 h4 (allBare_setGen (by rw [h5]; exact b5) rfl) turn w0
theorem pe_anyGxE {Wo : WX} {tt : WX → TT} {te : WX → TE} (tkX : Takes X Wo) (hr : Room (k + 3) X.A) (TB : TabB X.base X.mg c P) (hcode : X.env.code = .ref c) (hmT : (P, X.env.qual ++ "<genexpr>") ∈ T) (hu : ∀ p ∈ T, p.1 = P → p.2 = X.env.qual ++ "<genexpr>") (G : GxS X scope own) (hN : X.N.Nodup) (hi : PI X tg iter wi)
    (hp : ∀ Wf, GxPartsE X k scope tg elt ifs g (tt Wf) (te Wf) Wf) (hg : Gl X "any") (hm : X.mg "any" = none) (hs : ∀ v, genFold iter X.env v = pure v)
    (he : starEach [.GeneratorExp elt [⟨tg, iter, ifs, 0⟩] scope gpos] X.env = (false, eval (.GeneratorExp elt [⟨tg, iter, ifs, 0⟩] scope gpos) X.env) :: starEach [] X.env := by rfl) :
    PE X (.Call (.Name "any" p) [.GeneratorExp elt [⟨tg, iter, ifs, 0⟩] scope gpos] [] pos) (tAnyGxE X.K Wo T wi g tt te (own.map (·.2))) := by
  refine ⟨fun pins s σ H Q I h => ?_⟩
  refine wpAny_Call_Name_kw (ld_blt I hg hm boot_any ?_)
  refine PyProof.Rows.callWith_builtin1 ?_ he (by rfl)
  rw [he]
  show wpAny _ _ (spliced ((false, eval (.GeneratorExp elt [⟨tg, iter, ifs, 0⟩] scope gpos) X.env) :: backTo pos (starEach [] X.env))) _ _ s
  refine Calls.spliced_cons (gx_eval (T := T) hr TB hcode hmT hu G hi hs I h fun J H1 H2 a s5 hR eN T2 M => ?_)
  obtain ⟨W, m, w0, turn⟩ := hR H2 eN T2
  refine Calls.spliced_nil ?_
  have hfr : X.A.frames = some X.stack := I.ok.frames
  obtain ⟨gn, nm, qn, ga, lim, b5, alt, gst⟩ := gx_gstE tkX (S := none) (SR := fun _ _ => True) (A := X.A.in1) M G hN (hp _) hfr hr.hd ⟨hr.hd, by have := hr.dp; show X.A.depth + 3 * (k + 1) + 5 < _; omega, by have := hr.un; show X.A.units + 1 + 1 + 16 * (k + 1) + 200 < _; omega⟩ turn w0
  refine call_function_tree F.kind_any F.plain_any F.entry_any (F.args_any1 _) ?_
  unfold Builtin.«any»
  refine wpAny_bind (m := oneArg "any" _) (wpAny_pure ?_)
  refine wpAny_bind (wpAny_pyIter_gen ⟨_, nm, qn, ga, rfl, rfl, rfl⟩ ?_)
  refine wpAny_pure ⟨plainId_quiet F.plain_any_loop _, any_gxE (W := Wo) (A := X.A) hr.hd (by have := hr.dp; show X.A.depth < _; omega) (QT := Q (.bl true)) (QF := Q (.bl false)) (fun H s' I' q => ?_) (fun H s' I' q => ?_) (fun e s' he => tkX e s' he) sizeLine s5 (gst s5 (fun b e => nomatch e) (fun _ _ e => e) (fun b e => nomatch e) rfl rfl)⟩
  · exact ⟨.bl true, H, I', rfl, q⟩
  · exact ⟨.bl false, H, I', rfl, q⟩
theorem pe_allGxE {Wo : WX} {tt : WX → TT} {te : WX → TE} (tkX : Takes X Wo) (hr : Room (k + 3) X.A) (TB : TabB X.base X.mg c P) (hcode : X.env.code = .ref c) (hmT : (P, X.env.qual ++ "<genexpr>") ∈ T) (hu : ∀ p ∈ T, p.1 = P → p.2 = X.env.qual ++ "<genexpr>") (G : GxS X scope own) (hN : X.N.Nodup) (hi : PI X tg iter wi)
    (hp : ∀ Wf, GxPartsE X k scope tg elt ifs g (tt Wf) (te Wf) Wf) (hg : Gl X "all") (hm : X.mg "all" = none) (hs : ∀ v, genFold iter X.env v = pure v)
    (he : starEach [.GeneratorExp elt [⟨tg, iter, ifs, 0⟩] scope gpos] X.env = (false, eval (.GeneratorExp elt [⟨tg, iter, ifs, 0⟩] scope gpos) X.env) :: starEach [] X.env := by rfl) :
    PE X (.Call (.Name "all" p) [.GeneratorExp elt [⟨tg, iter, ifs, 0⟩] scope gpos] [] pos) (tAllGxE X.K Wo T wi g tt te (own.map (·.2))) := by
  refine ⟨fun pins s σ H Q I h => ?_⟩
  refine wpAny_Call_Name_kw (ld_blt I hg hm boot_all ?_)
  refine PyProof.Rows.callWith_builtin1 ?_ he (by rfl)
  rw [he]
  show wpAny _ _ (spliced ((false, eval (.GeneratorExp elt [⟨tg, iter, ifs, 0⟩] scope gpos) X.env) :: backTo pos (starEach [] X.env))) _ _ s
  refine Calls.spliced_cons (gx_eval (T := T) hr TB hcode hmT hu G hi hs I h fun J H1 H2 a s5 hR eN T2 M => ?_)
  obtain ⟨W, m, w0, turn⟩ := hR H2 eN T2
  refine Calls.spliced_nil ?_
  have hfr : X.A.frames = some X.stack := I.ok.frames
  obtain ⟨gn, nm, qn, ga, lim, b5, alt, gst⟩ := gx_gstE tkX (S := none) (SR := fun _ _ => True) (A := X.A.in1) M G hN (hp _) hfr hr.hd ⟨hr.hd, by have := hr.dp; show X.A.depth + 3 * (k + 1) + 5 < _; omega, by have := hr.un; show X.A.units + 1 + 1 + 16 * (k + 1) + 200 < _; omega⟩ turn w0
  refine call_function_tree F.kind_all F.plain_all F.entry_all (F.args_all1 _) ?_
  unfold Builtin.«all»
  refine wpAny_bind (m := oneArg "all" _) (wpAny_pure ?_)
  refine wpAny_bind (wpAny_pyIter_gen ⟨_, nm, qn, ga, rfl, rfl, rfl⟩ ?_)
  refine wpAny_pure ⟨plainId_quiet F.plain_all_loop _, all_gxE (W := Wo) (A := X.A) hr.hd (by have := hr.dp; show X.A.depth < _; omega) (QT := Q (.bl true)) (QF := Q (.bl false)) (fun H s' I' q => ?_) (fun H s' I' q => ?_) (fun e s' he => tkX e s' he) sizeLine s5 (gst s5 (fun b e => nomatch e) (fun _ _ e => e) (fun b e => nomatch e) rfl rfl)⟩
  · exact ⟨.bl true, H, I', rfl, q⟩
  · exact ⟨.bl false, H, I', rfl, q⟩
theorem pe_tupGxE {Wo : WX} {tt : WX → TT} {te : WX → TE} (tkX : Takes X Wo) (hr : Room (k + 3) X.A) (TB : TabB X.base X.mg c P) (hcode : X.env.code = .ref c) (hmT : (P, X.env.qual ++ "<genexpr>") ∈ T) (hu : ∀ p ∈ T, p.1 = P → p.2 = X.env.qual ++ "<genexpr>") (G : GxS X scope own) (hN : X.N.Nodup) (hi : PI X tg iter wi)
    (hp : ∀ Wf, GxPartsE X k scope tg elt ifs g (tt Wf) (te Wf) Wf) (hg : Gl X "tuple") (hm : X.mg "tuple" = none) (hs : ∀ v, genFold iter X.env v = pure v)
    (he : starEach [.GeneratorExp elt [⟨tg, iter, ifs, 0⟩] scope gpos] X.env = (false, eval (.GeneratorExp elt [⟨tg, iter, ifs, 0⟩] scope gpos) X.env) :: starEach [] X.env := by rfl) :
    PE X (.Call (.Name "tuple" p) [.GeneratorExp elt [⟨tg, iter, ifs, 0⟩] scope gpos] [] pos) (tTupGxE X.K Wo T wi g tt te (own.map (·.2))) := by
  refine ⟨fun pins s σ H Q I h => ?_⟩
  refine wpAny_Call_Name_kw (ld_blt I hg hm boot_tuple ?_)
  refine PyProof.Rows.callWith_type1 ?_ he (by rfl)
  rw [he]
  show wpAny _ _ (spliced ((false, eval (.GeneratorExp elt [⟨tg, iter, ifs, 0⟩] scope gpos) X.env) :: backTo pos (starEach [] X.env))) _ _ s
  refine Calls.spliced_cons (gx_eval (T := T) hr TB hcode hmT hu G hi hs I h fun J H1 H2 a s5 hR eN T2 M => ?_)
  obtain ⟨W, m, w0, turn⟩ := hR H2 eN T2
  refine Calls.spliced_nil ?_
  have hfr : X.A.frames = some X.stack := I.ok.frames
  obtain ⟨gn, nm, qn, ga, lim, b5, alt, gst⟩ := gx_gstE tkX (S := some s5.heap.objs.size) (SR := SRlst) (A := X.A.in1.in1.in1) M G hN (hp _) hfr hr.hd ⟨hr.hd, by have := hr.dp; show X.A.depth + 3 * (k + 1) + 5 < _; omega, by have := hr.un; show X.A.units + 1 + 1 + 1 + 1 + 16 * (k + 1) + 200 < _; omega⟩ turn w0
  refine call_tuple_gx ga (collect_gxE (W := Wo) (A := X.A.in1.in1) hr.hd (by have := hr.dp; show X.A.depth < _; omega) ga alt gst (fun ys H s' acc I' hv hE => ?_) fun e s' he => tkX e s' he)
  obtain ⟨hl, hq⟩ := hE
  have hle : acc.toList.length ≤ sizeLine := by rw [← hv.length]; exact hl
  have hn : H s'.heap.objs.size = none := I'.hok.fresh (Nat.le_refl _)
  have ob : ObjOk X.prog X.w (upd H s'.heap.objs.size (.tup ys)) (s'.heap.push { cls := .type "tuple", data := .seq acc.toList.toArray }) s'.heap.objs.size (.tup ys) := by
    refine ⟨hl, acc.toList, hv, ?_⟩
    first
      | exact ⟨_, Heap.get?_push_size _ rfl, rfl, rfl⟩
      | exact ⟨_, Heap.get?_push_size _ rfl, rfl, 0, rfl⟩
      | exact ⟨_, Heap.get?_push_size _ rfl, rfl, _, rfl⟩
  exact ⟨hle, .ref s'.heap.objs.size, _, I'.laid (t' := s'.toks) (fun b o e => Heap.get?_push_of_some _ e) (Nat.le_refl _) ob, rfl, hq _ hn⟩
end
end GxP

set_option Elab.async false
set_option linter.all false
set_option maxRecDepth 100000
set_option maxHeartbeats 4000000
namespace Mi
open PySem L2 GxP LamX
/-- as cgo; zs: the exceptions that a part may raise -/
def cgoE {α : Type} (zs : List Str) (t : Tg) (fc : Cb Bool) (fe : Cb D) (step : α → D → Option (α ⊕ D)) (fin : α → Option D) : List D → α → En → Sto → Option (Out D)
  | [], a, _, μ => (match fin a with
    | some d => some (.ok d μ)
    | none => none)
  | d :: ds, a, ρ, μ => match t d ρ μ with
    | some (ρ1, μ1) => (match fc ρ1 μ1 with
      | some (.ok true μ2) => (match fe ρ1 μ2 with
        | some (.ok y μ3) => (match step a y with
          | some (.inl a') => cgoE zs t fc fe step fin ds a' ρ μ3
          | some (.inr z) => some (.ok z μ3)
          | none => none)
        | some (.exc c μ3) => if c ∈ zs then some (.exc c μ3) else none
        | none => none)
      | some (.ok false μ2) => cgoE zs t fc fe step fin ds a ρ μ2
      | some (.exc c μ2) => if c ∈ zs then some (.exc c μ2) else none
      | none => none)
    | none => none
def bGxE {α : Type} (zs : List Str) (own : List Nat) (fit : Cb (List D)) (t : Tg) (fc : Cb Bool) (fe : Cb D) (a0 : α) (step : α → D → Option (α ⊕ D)) (fin : α → Option D) : Cb D := fun ρ μ => ob (fit ρ μ) fun ds μ1 => if ds.length ≤ 16777216 then cgoE zs t fc fe step fin ds a0 (wipeD ρ own) μ1 else none
theorem cgoE_ok {α : Type} {zs : List Str} {t : Tg} {fc : Cb Bool} {fe : Cb D} {step : α → D → Option (α ⊕ D)} {fin : α → Option D} {ρ : En} {r : D} {μ' : Sto} : ∀ (ds : List D) (a : α) (μ : Sto), cgo t fc fe step fin ds a ρ μ = some (.ok r μ') → cgoE zs t fc fe step fin ds a ρ μ = some (.ok r μ')
  | [], a, μ, h => h
  | d :: ds, a, μ, h => by
    unfold cgo at h
    unfold cgoE
    cases q1 : t d ρ μ with
    | none => rw [q1] at h; cases h
    | some p1 =>
      obtain ⟨ρ1, μ1⟩ := p1
      rw [q1] at h
      dsimp only at h ⊢
      cases q2 : fc ρ1 μ1 with
      | none => rw [q2] at h; cases h
      | some o2 =>
        rw [q2] at h
        cases o2 with
        | exc c μ2 => cases h
        | ok b μ2 =>
          cases b with
          | false => exact cgoE_ok ds a μ2 h
          | true =>
            dsimp only at h ⊢
            cases q3 : fe ρ1 μ2 with
            | none => rw [q3] at h; cases h
            | some o3 =>
              rw [q3] at h
              cases o3 with
              | exc c μ3 => cases h
              | ok y μ3 =>
                dsimp only at h ⊢
                cases q4 : step a y with
                | none => rw [q4] at h; cases h
                | some s4 =>
                  rw [q4] at h
                  cases s4 with
                  | inl a' => exact cgoE_ok ds a' μ3 h
                  | inr z => exact h
section
variable {g : Gb} {k j : Nat} {Λ : Lr} {X : Cx} {W : WX} {α : Type} {own : List Nat} {fit : Cb (List D)} {t : Tg} {tc : Cb Bool} {fe : Cb D} {a0 : α} {step : α → D → Option (α ⊕ D)} {fin : α → Option D} {σ : St} {H : Hp} {Q : VK}
theorem rd_gxE {K : PySem.W.Frag} {zs : List Str} (hz : ∀ c ∈ zs, PySem.W.subIn K (.ref (g.cls c)) (.type "StopIteration") = some false) {AR : List Addr → Hp → α → List V → Prop} {Stp Ctn : List V → V → Hp → Prop} {En : List V → Hp → Prop} (hext : ∀ ι H ι' H' a ys, Ext ι H ι' H' → AR ι H a ys → AR ι' H' a ys) (h0 : ∀ ι H, AR ι H a0 [])
    (hstep : ∀ ι H μ a y a' ys v, MR g Λ ι H μ → AR ι H a ys → Rep g.K Λ ι H y v → ys.length < 16777216 → step a y = some (.inl a') → Ctn ys v H ∧ AR ι H a' (ys ++ [v]))
    (hstop : ∀ ι H μ a y z ys v, MR g Λ ι H μ → AR ι H a ys → Rep g.K Λ ι H y v → step a y = some (.inr z) → (∀ u, Rep g.K Λ ι H z u → Q u H) → Stp ys v H)
    (hfin : ∀ ι H μ a ys d, MR g Λ ι H μ → AR ι H a ys → fin a = some d → ys.length ≤ 16777216 → (∀ ι' H' v, Ext ι H ι' H' → MR g Λ ι' H' μ → Rep g.K Λ ι' H' d v → Q v H') → En ys H)
    (h : rdE g Λ W (bGxE zs own fit t tc fe a0 step fin) σ H Q) : tGx g.T (rdI g Λ W fit) (rdG g Λ own t) (rdT g Λ (XW K W σ) tc) (rdE g Λ (XW K W σ) fe) own Stp Ctn En σ H := by
  obtain ⟨ι, ρ, μ, r, l, m, e, p⟩ := h
  have e : ob (fit ρ μ) (fun ds μ1 => if ds.length ≤ 16777216 then cgoE zs t tc fe step fin ds a0 (wipeD ρ own) μ1 else none) = some r := e
  cases q : fit ρ μ with
  | none => rw [q] at e; cases e
  | some o =>
    refine ⟨ι, ρ, μ, o, l, m, q, ?_⟩
    rw [q] at e
    cases o with
    | exc c μ1 => cases e; exact p
    | ok ds μ1 =>
      intro ι1 H1 J x1 m1 it
      have e : (if ds.length ≤ 16777216 then cgoE zs t tc fe step fin ds a0 (wipeD ρ own) μ1 else none) = some r := e
      split at e
      · rename_i hds
        refine ⟨m1.tabs, fun Hs eN TT => ?_⟩
        have xs : Ext ι1 H1 ι1 Hs := ext_of_n eN
        have ms := m1.ofN eN TT
        have lw : LR g Λ ι1 Hs (wipe σ own) (wipeD ρ own) := (l.ext (x1.trans xs)).wipe own
        refine ⟨fun i n ys H2 => ∃ ι2 μ2 a, i ≤ ds.length ∧ n = ds.length - i ∧ ys.length ≤ i ∧ Ext ι1 Hs ι2 H2 ∧ MR g Λ ι2 H2 μ2 ∧ LR g Λ ι2 H2 (wipe σ own) (wipeD ρ own) ∧ AR ι2 H2 a ys ∧ cgoE zs t tc fe step fin (ds.drop i) a (wipeD ρ own) μ2 = some r,
          _, ⟨ι1, μ1, a0, Nat.zero_le _, rfl, Nat.le_refl _, .refl _ _, ms, lw, h0 _ _, e⟩, ?_⟩
        intro i n ys H2 ⟨ι2, μ2, a, hi, hn, hy, x2, m2, l2, ra, e2⟩
        obtain ⟨stop, go⟩ := it Λ (fun d v rv => rv) ι2 H2 μ2 (xs.trans x2) m2 i
        by_cases hl : ds.length ≤ i
        · rw [List.drop_of_length_le hl] at e2
          refine .inl ⟨stop hl, ?_⟩
          have e2 : (match fin a with | some d => some (Out.ok d μ2) | none => none) = some r := e2
          split at e2
          · rename_i d hd
            cases e2
            exact hfin ι2 H2 μ2 a ys d m2 ra hd (by omega) fun ι' H' v x' m' r' => p ι' H' v ((x1.trans xs).trans (x2.trans x')) m' r'
          · cases e2
        · have hlt : i < ds.length := by omega
          obtain ⟨g1, g2⟩ := go ds[i] (List.getElem?_eq_getElem hlt)
          rw [List.drop_eq_getElem_cons hlt] at e2
          refine .inr ⟨g1, fun ys' H3 => ∃ ι2 μ2 a, ys'.length ≤ i + 1 ∧ Ext ι1 Hs ι2 H3 ∧ MR g Λ ι2 H3 μ2 ∧ LR g Λ ι2 H3 (wipe σ own) (wipeD ρ own) ∧ AR ι2 H3 a ys' ∧ cgoE zs t tc fe step fin (ds.drop (i + 1)) a (wipeD ρ own) μ2 = some r,
            fun ys' H3 ⟨ι3, μ3, a3, y0, y1, y2, y3, y4, y5⟩ => ⟨ds.length - (i + 1), by omega, ι3, μ3, a3, by omega, rfl, y0, y1, y2, y3, y4, y5⟩, fun x H3 hyl => ?_⟩
          obtain ⟨sm, rx⟩ := g2 x H3 hyl
          have x3 : Ext ι2 H2 ι2 H3 := .of_sam sm
          unfold cgoE at e2
          split at e2
          · rename_i ρ4 μ4 q4
            refine ⟨ι2, wipeD ρ own, μ2, ds[i], ρ4, μ4, l2.ext x3, m2.sam sm, rx, q4, fun ι5 H5 σ5 x5 m5 l5 w5 => ⟨by rw [w5]; exact wipe_idem σ own, ?_⟩⟩
            split at e2
            · rename_i μ5 q5
              refine ⟨ι5, ρ4, μ4, _, l5, m5, q5, fun ι6 H6 x6 m6 => ?_⟩
              show (if true = true then _ else _)
              rw [if_pos rfl]
              have x26 : Ext ι2 H2 ι6 H6 := (x3.trans x5).trans x6
              split at e2
              · rename_i y μ7 q6
                refine ⟨ι6, ρ4, μ5, _, l5.ext x6, m6, q6, fun ι7 H7 v x7 m7 rv => ?_⟩
                have x27 := x26.trans x7
                have r7 := hext _ _ _ _ _ _ x27 ra
                refine ⟨by rw [sizeLine_eq]; omega, ?_⟩
                split at e2
                · rename_i a' qs
                  obtain ⟨c1, c2⟩ := hstep ι7 H7 μ7 a y a' ys v m7 r7 rv (by omega) qs
                  exact .inr ⟨c1, ι7, μ7, a', by rw [List.length_append, List.length_singleton]; omega, x2.trans x27, m7, l2.ext x27, c2, e2⟩
                · rename_i z qs
                  cases e2
                  exact .inl (hstop ι7 H7 μ7 a y z ys v m7 r7 rv qs fun u ru => p ι7 H7 u ((x1.trans xs).trans (x2.trans x27)) m7 ru)
                · cases e2
              · rename_i cx μ7 q6
                split at e2
                · rename_i hcx
                  cases e2
                  exact ⟨ι6, ρ4, μ5, _, l5.ext x6, m6, q6, fun ι7 H7 x7 m7 => ⟨hz cx hcx, p ι7 H7 ((x1.trans xs).trans (x2.trans (x26.trans x7))) m7⟩⟩
                · cases e2
              · cases e2
            · rename_i μ5 q5
              refine ⟨ι5, ρ4, μ4, _, l5, m5, q5, fun ι6 H6 x6 m6 => ?_⟩
              show (if false = true then _ else _)
              rw [if_neg (by decide)]
              have x26 : Ext ι2 H2 ι6 H6 := (x3.trans x5).trans x6
              exact ⟨ι6, μ5, a, by omega, x2.trans x26, m6, l2.ext x26, hext _ _ _ _ _ _ x26 ra, e2⟩
            · rename_i cx μ5 q5
              split at e2
              · rename_i hcx
                cases e2
                exact ⟨ι5, ρ4, μ4, _, l5, m5, q5, fun ι6 H6 x6 m6 => ⟨hz cx hcx, p ι6 H6 ((x1.trans xs).trans (x2.trans ((x3.trans x5).trans x6))) m6⟩⟩
              · cases e2
            · cases e2
          · cases e2
      · cases e
end
section
variable {g : Gb} {k j : Nat} {Λ : Lr} {X : Cx} {W : WX} {tg elt iter : Expr} {ifs : List Expr} {own : List (Str × Nat)} {fit : Cb (List D)} {t : Tg} {tc : Cb Bool} {fe : Cb D} {scope : Scope} {c P : Addr} {gpos p pos : Pos} {T : List (Addr × Str)} {zs : List Str}
/-- all that a generator expression's parts are to be shown for -/
abbrev GBlkE (k : Nat) (X : Cx) (scope : Scope) (P : Cx → WX → Prop) : Prop := ∀ (A : Around) (s : Shared) (H : Hp) (L : Addr) (code : Value) (fp : List Addr) (pn : List (Addr × Obj)) (F : Value → Shared → Prop) (Wf : WX), Room k (A.deeper (gxEnv X scope L code)) → P (gxCxE X A s H (gxEnv X scope L code) fp pn F) Wf
theorem XOk.gxE {A : Around} {s : Shared} {H : Hp} {cenv : Env} {fp : List Addr} {pn : List (Addr × Obj)} {F : Value → Shared → Prop} (ok : XOk g k X) (hr : Room j (A.deeper cenv)) (hp : PassesOwn (model X.prog X.w) (A.deeper cenv) cenv (leavesTo X.prog X.w (A.deeper cenv) cenv F)) : XOk g j (gxCxE X A s H cenv fp pn F) := ⟨ok.P, ok.w, ok.K, ok.mg, ok.base, rfl, hr, ok.nd, hp⟩
theorem gx_partsE (ok : XOk g k X) (ht : GBlkE j X scope fun X' Wf => DG g j Λ X' W0 (own.map (·.2)) tg t) (hc : GBlkE j X scope fun X' Wf => DTs g j Λ X' Wf ifs tc) (he : GBlkE j X scope fun X' Wf => DE g j Λ X' Wf elt fe) (Wf : WX) :
    GxPartsE X j scope tg elt ifs (rdG g Λ (own.map (·.2)) t) (rdT g Λ Wf tc) (rdE g Λ Wf fe) Wf := fun A s H L code fp pn F hr tk po =>
  ⟨ht A s H L code fp pn F Wf hr (ok.gxE hr po) takesN, hc A s H L code fp pn F Wf hr (ok.gxE hr po) tk, he A s H L code fp pn F Wf hr (ok.gxE hr po) tk⟩
theorem tail_no {K : PySem.W.Frag} {bmB : List Value} {b : Value} (hb : bmB.contains b = false) (hr : ∀ A, (b == Value.ref A) = false) : ∀ {l : List Value}, PySem.W.tailIn K bmB l = true → l.contains b = false
  | [], _ => rfl
  | v :: r, e => by
    unfold PySem.W.tailIn at e
    rcases Bool.or_eq_true_iff.mp e with q | q
    · rw [beq_iff_eq.mp q]; exact hb
    · split at q
      · rename_i A
        split at q
        · simp only [Bool.and_eq_true] at q
          rw [List.contains_cons, hr A, tail_no hb hr q.2]
          rfl
        · cases q
      · cases q
theorem no_stop {x : Str} (ec : EC g x) : PySem.W.subIn g.K (.ref (g.cls x)) (.type "StopIteration") = some false := by
  have h := ec.xP
  have h2 := ec.bP
  unfold PySem.W.excIn at h
  show PySem.W.mroIn g.K (g.cls x) _ = _
  have h2 : PySem.W.mroIn g.K (g.cls x) (.type "BaseException") = some true := h2
  unfold PySem.W.mroIn PySem.W.clsIn at h2 ⊢
  split at h
  · rename_i dd cd sl ho
    rw [ho] at h2 ⊢
    split at h
    · rename_i C' bm k0 k1 k2 k3 n k5 hm hs
      simp only [Bool.and_eq_true] at h
      have ht := tail_no (b := .type "StopIteration") (by decide +kernel) (fun A => rfl) h.1.1.2
      simp only [Option.bind, hm, List.isEmpty_cons, Bool.false_eq_true, if_false, List.contains_cons, ht]
      rfl
    · cases h
  · cases h
theorem xs_nil : ∀ c ∈ ([] : List Str), PySem.W.subIn g.K (.ref (g.cls c)) (.type "StopIteration") = some false := fun _ h => nomatch h
theorem xs_cons {x : Str} {xs : List Str} (h : PySem.W.subIn g.K (.ref (g.cls x)) (.type "StopIteration") = some false) (hs : ∀ c ∈ xs, PySem.W.subIn g.K (.ref (g.cls c)) (.type "StopIteration") = some false) : ∀ c ∈ x :: xs, PySem.W.subIn g.K (.ref (g.cls c)) (.type "StopIteration") = some false := fun c hc => by
  rcases List.mem_cons.mp hc with e | e
  · rw [e]; exact h
  · exact hs c e
theorem de_anyGxE (own : List (Str × Nat)) (hz : ∀ c ∈ zs, PySem.W.subIn g.K (.ref (g.cls c)) (.type "StopIteration") = some false) (hk : j + 3 ≤ k) (hm : g.mg "any" = none) (TB : TabB g.base g.mg c P) (hmT : (P, X.env.qual ++ "<genexpr>") ∈ g.T) (hu : ∀ p ∈ g.T, p.1 = P → p.2 = X.env.qual ++ "<genexpr>") (hb : gxSB X.N X.env.scope scope own = true) (hi : DI g k Λ X W tg iter fit)
    (ht : GBlkE j X scope fun X' Wf => DG g j Λ X' W0 (own.map (·.2)) tg t) (hc : GBlkE j X scope fun X' Wf => DTs g j Λ X' Wf ifs tc) (he : GBlkE j X scope fun X' Wf => DE g j Λ X' Wf elt fe) (hg : Gl X "any" := by rfl) (hcode : X.env.code = .ref c := by rfl) (hs : ∀ v, genFold iter X.env v = pure v := by intro _; rfl)
    (hse : starEach [.GeneratorExp elt [⟨tg, iter, ifs, 0⟩] scope gpos] X.env = (false, eval (.GeneratorExp elt [⟨tg, iter, ifs, 0⟩] scope gpos) X.env) :: starEach [] X.env := by rfl) :
    DE g k Λ X W (.Call (.Name "any" p) [.GeneratorExp elt [⟨tg, iter, ifs, 0⟩] scope gpos] [] pos) (bGxE zs (own.map (·.2)) fit t tc fe () stAny fun _ => some (.bl false)) := fun ok tk =>
  PE.imp (pe_anyGxE (tt := fun Wf => rdT g Λ Wf tc) (te := fun Wf => rdE g Λ Wf fe) tk (ok.room.mono hk) (by rw [ok.base, ok.mg]; exact TB) hcode hmT hu (gxS_by hb) ok.nd (hi ok tk) (gx_partsE ok ht hc he) hg (by rw [ok.mg]; exact hm) hs hse) fun σ H Q h =>
    rd_gxE (K := X.K) (by rw [ok.K]; exact hz) (AR := fun _ _ _ _ => True) (fun _ _ _ _ _ _ _ _ => trivial) (fun _ _ => trivial) (fun ι H μ a y a' ys v m _ r _ e => by
      unfold stAny at e
      split at e
      · cases e
      · cases r; exact ⟨rfl, trivial⟩
      · cases e) (fun ι H μ a y z ys v m _ r e q => by
      unfold stAny at e
      split at e
      · cases e; cases r; exact ⟨rfl, q _ rfl⟩
      · cases e
      · cases e) (fun ι H μ a ys d m _ e _ q => by cases e; exact q ι H _ (.refl _ _) m rfl) h
theorem de_allGxE (own : List (Str × Nat)) (hz : ∀ c ∈ zs, PySem.W.subIn g.K (.ref (g.cls c)) (.type "StopIteration") = some false) (hk : j + 3 ≤ k) (hm : g.mg "all" = none) (TB : TabB g.base g.mg c P) (hmT : (P, X.env.qual ++ "<genexpr>") ∈ g.T) (hu : ∀ p ∈ g.T, p.1 = P → p.2 = X.env.qual ++ "<genexpr>") (hb : gxSB X.N X.env.scope scope own = true) (hi : DI g k Λ X W tg iter fit)
    (ht : GBlkE j X scope fun X' Wf => DG g j Λ X' W0 (own.map (·.2)) tg t) (hc : GBlkE j X scope fun X' Wf => DTs g j Λ X' Wf ifs tc) (he : GBlkE j X scope fun X' Wf => DE g j Λ X' Wf elt fe) (hg : Gl X "all" := by rfl) (hcode : X.env.code = .ref c := by rfl) (hs : ∀ v, genFold iter X.env v = pure v := by intro _; rfl)
    (hse : starEach [.GeneratorExp elt [⟨tg, iter, ifs, 0⟩] scope gpos] X.env = (false, eval (.GeneratorExp elt [⟨tg, iter, ifs, 0⟩] scope gpos) X.env) :: starEach [] X.env := by rfl) :
    DE g k Λ X W (.Call (.Name "all" p) [.GeneratorExp elt [⟨tg, iter, ifs, 0⟩] scope gpos] [] pos) (bGxE zs (own.map (·.2)) fit t tc fe () stAll fun _ => some (.bl true)) := fun ok tk =>
  PE.imp (pe_allGxE (tt := fun Wf => rdT g Λ Wf tc) (te := fun Wf => rdE g Λ Wf fe) tk (ok.room.mono hk) (by rw [ok.base, ok.mg]; exact TB) hcode hmT hu (gxS_by hb) ok.nd (hi ok tk) (gx_partsE ok ht hc he) hg (by rw [ok.mg]; exact hm) hs hse) fun σ H Q h =>
    rd_gxE (K := X.K) (by rw [ok.K]; exact hz) (AR := fun _ _ _ _ => True) (fun _ _ _ _ _ _ _ _ => trivial) (fun _ _ => trivial) (fun ι H μ a y a' ys v m _ r _ e => by
      unfold stAll at e
      split at e
      · cases e
      · cases r; exact ⟨rfl, trivial⟩
      · cases e) (fun ι H μ a y z ys v m _ r e q => by
      unfold stAll at e
      split at e
      · cases e; cases r; exact ⟨rfl, q _ rfl⟩
      · cases e
      · cases e) (fun ι H μ a ys d m _ e _ q => by cases e; exact q ι H _ (.refl _ _) m rfl) h
theorem de_tupGxE (own : List (Str × Nat)) (hz : ∀ c ∈ zs, PySem.W.subIn g.K (.ref (g.cls c)) (.type "StopIteration") = some false) (hk : j + 3 ≤ k) (hm : g.mg "tuple" = none) (TB : TabB g.base g.mg c P) (hmT : (P, X.env.qual ++ "<genexpr>") ∈ g.T) (hu : ∀ p ∈ g.T, p.1 = P → p.2 = X.env.qual ++ "<genexpr>") (hb : gxSB X.N X.env.scope scope own = true) (hi : DI g k Λ X W tg iter fit)
    (ht : GBlkE j X scope fun X' Wf => DG g j Λ X' W0 (own.map (·.2)) tg t) (hc : GBlkE j X scope fun X' Wf => DTs g j Λ X' Wf ifs tc) (he : GBlkE j X scope fun X' Wf => DE g j Λ X' Wf elt fe) (hg : Gl X "tuple" := by rfl) (hcode : X.env.code = .ref c := by rfl) (hs : ∀ v, genFold iter X.env v = pure v := by intro _; rfl)
    (hse : starEach [.GeneratorExp elt [⟨tg, iter, ifs, 0⟩] scope gpos] X.env = (false, eval (.GeneratorExp elt [⟨tg, iter, ifs, 0⟩] scope gpos) X.env) :: starEach [] X.env := by rfl) :
    DE g k Λ X W (.Call (.Name "tuple" p) [.GeneratorExp elt [⟨tg, iter, ifs, 0⟩] scope gpos] [] pos) (bGxE zs (own.map (·.2)) fit t tc fe ([] : List D) stTup fun xs => some (.tup xs)) := fun ok tk =>
  PE.imp (pe_tupGxE (tt := fun Wf => rdT g Λ Wf tc) (te := fun Wf => rdE g Λ Wf fe) tk (ok.room.mono hk) (by rw [ok.base, ok.mg]; exact TB) hcode hmT hu (gxS_by hb) ok.nd (hi ok tk) (gx_partsE ok ht hc he) hg (by rw [ok.mg]; exact hm) hs hse) fun σ H Q h =>
    rd_gxE (K := X.K) (by rw [ok.K]; exact hz) (AR := fun ι H a ys => Reps g.K Λ ι H a ys) (fun _ _ _ _ a _ x h => Reps.ext x a h) (fun ι H => show Reps g.K Λ ι H ([] : List D) [] from rfl) (fun ι H μ a y a' ys v m ra r hl e => by
      cases e
      exact ⟨by show ys.length < sizeLine; rw [sizeLine_eq]; exact hl, Reps.app ra (Reps.one r)⟩) (fun ι H μ a y z ys v m _ r e q => by cases e) (fun ι H μ a ys d m ra e hl q => by
      cases e
      refine ⟨by rw [sizeLine_eq]; exact hl, fun p hp => ?_⟩
      obtain ⟨x1, m1, r1⟩ := new_tup m hp ra
      exact q ι _ (.ref p) x1 m1 r1) h
end
end Mi

set_option Elab.async false
set_option linter.all false
set_option maxRecDepth 100000
set_option maxHeartbeats 4000000
namespace Mi
open PySem L2
/-! ### states compared in the kernel; data equal to itself -/
mutual
def eqD : D → D → Bool
  | .non, .non => true
  | .bl a, .bl b => decide (a = b)
  | .int a, .int b => decide (a = b)
  | .str a, .str b => decide (a = b)
  | .tup xs, .tup ys => eqDs xs ys
  | .lst xs, .lst ys => eqDs xs ys
  | .ref n, .ref m => decide (n = m)
  | .lam n, .lam m => decide (n = m)
  | _, _ => false
def eqDs : List D → List D → Bool
  | [], [] => true
  | x :: xs, y :: ys => eqD x y && eqDs xs ys
  | _, _ => false
end
mutual
theorem eqD_eq : ∀ {x y : D}, eqD x y = true → x = y
  | .non, y, h => by cases y <;> simp_all [eqD]
  | .bl a, y, h => by cases y <;> simp_all [eqD]
  | .int a, y, h => by cases y <;> simp_all [eqD]
  | .str a, y, h => by cases y <;> simp_all [eqD]
  | .tup xs, y, h => by
    cases y with
    | tup ys => rw [eqD] at h; rw [eqDs_eq h]
    | _ => simp [eqD] at h
  | .lst xs, y, h => by
    cases y with
    | lst ys => rw [eqD] at h; rw [eqDs_eq h]
    | _ => simp [eqD] at h
  | .dct ks xs, y, h => by cases y <;> simp_all [eqD]
  | .ref n, y, h => by cases y <;> simp_all [eqD]
  | .lam n, y, h => by cases y <;> simp_all [eqD]
  | .scr ns, y, h => by cases y <;> simp_all [eqD]
theorem eqDs_eq : ∀ {xs ys : List D}, eqDs xs ys = true → xs = ys
  | [], ys, h => by cases ys <;> simp_all [eqDs]
  | x :: xs, ys, h => by
    cases ys with
    | nil => simp [eqDs] at h
    | cons y ys =>
      simp only [eqDs, Bool.and_eq_true] at h
      rw [eqD_eq h.1, eqDs_eq h.2]
end
def eqSO : SO → SO → Bool
  | .lst xs, .lst ys => eqDs xs ys
  | .dct ks xs, .dct ls ys => decide (ks = ls) && eqDs xs ys
  | .ins c fs xs, .ins d gs ys => decide (c = d) && decide (fs = gs) && eqDs xs ys
  | _, _ => false
theorem eqSO_eq {x y : SO} (h : eqSO x y = true) : x = y := by
  unfold eqSO at h
  split at h
  · rw [eqDs_eq h]
  · simp only [Bool.and_eq_true, decide_eq_true_eq] at h
    rw [h.1, eqDs_eq h.2]
  · simp only [Bool.and_eq_true, decide_eq_true_eq] at h
    rw [h.1.1, h.1.2, eqDs_eq h.2]
  · cases h
def eqSs : Sto → Sto → Bool
  | [], [] => true
  | x :: xs, y :: ys => eqSO x y && eqSs xs ys
  | _, _ => false
theorem eqSs_eq : ∀ {xs ys : Sto}, eqSs xs ys = true → xs = ys
  | [], ys, h => by cases ys <;> simp_all [eqSs]
  | x :: xs, ys, h => by
    cases ys with
    | nil => simp [eqSs] at h
    | cons y ys =>
      simp only [eqSs, Bool.and_eq_true] at h
      rw [eqSO_eq h.1, eqSs_eq h.2]
def eqEn : En → En → Bool
  | [], [] => true
  | none :: xs, none :: ys => eqEn xs ys
  | some x :: xs, some y :: ys => eqD x y && eqEn xs ys
  | _, _ => false
theorem eqEn_eq : ∀ {xs ys : En}, eqEn xs ys = true → xs = ys
  | [], ys, h => by cases ys <;> simp_all [eqEn]
  | x :: xs, ys, h => by
    cases ys with
    | nil => cases x <;> simp [eqEn] at h
    | cons y ys =>
      cases x <;> cases y <;> simp [eqEn] at h
      · rw [eqEn_eq h]
      · rw [eqD_eq h.1, eqEn_eq h.2]
def isNx : Option SOut → En → Sto → Bool
  | some (.nx ρ μ), ρ1, μ1 => eqEn ρ ρ1 && eqSs μ μ1
  | _, _, _ => false
theorem isNx_eq {r : Option SOut} {ρ : En} {μ : Sto} (h : isNx r ρ μ = true) : r = some (.nx ρ μ) := by
  unfold isNx at h
  split at h
  · simp only [Bool.and_eq_true] at h
    rw [eqEn_eq h.1, eqSs_eq h.2]
  · cases h
theorem seq_assoc (a b c : Cs) : cSeq (cSeq a b) c = cSeq a (cSeq b c) := by
  funext ρ μ
  simp only [cSeq_s]
  cases a ρ μ with
  | none => rfl
  | some r => cases r <;> rfl
mutual
/-- plain data of depth n at most -/
def sfD : Nat → D → Bool
  | _, .non => true
  | _, .bl _ => true
  | _, .int _ => true
  | _, .str s => PyData.strOk s
  | n, .tup xs => decide (0 < n) && sfDs (n - 1) xs
  | n, .lst xs => decide (0 < n) && sfDs (n - 1) xs
  | _, _ => false
def sfDs : Nat → List D → Bool
  | _, [] => true
  | n, x :: xs => sfD n x && sfDs n xs
end
mutual
theorem sf_pd : ∀ {d : D} {n : Nat}, sfD n d = true → ∃ p, pd d = some p ∧ p.canLay0 = true ∧ p.depth ≤ n ∧ p.eqv p = true
  | .non, n, h => ⟨.none, by simp [pd], by simp [PyData.canLay0], by simp [PyData.depth], by simp [PyData.eqv]⟩
  | .bl b, n, h => ⟨.bool b, by simp [pd], by simp [PyData.canLay0], by simp [PyData.depth], by simp [PyData.eqv]⟩
  | .int i, n, h => ⟨.int i, by simp [pd], by simp [PyData.canLay0], by simp [PyData.depth], by simp [PyData.eqv]⟩
  | .str s, n, h => ⟨.str s, by simp [pd], by rw [PyData.canLay0]; simpa [sfD] using h, by simp [PyData.depth], by simp [PyData.eqv]⟩
  | .tup xs, n, h => by
    rw [sfD, Bool.and_eq_true, decide_eq_true_eq] at h
    obtain ⟨ps, h1, h2, h3, h4⟩ := sf_pds h.2
    exact ⟨.tuple ps, by simp [pd, h1], by rw [PyData.canLay0]; exact h2, by rw [PyData.depth]; omega, by rw [PyData.eqv]; exact h4⟩
  | .lst xs, n, h => by
    rw [sfD, Bool.and_eq_true, decide_eq_true_eq] at h
    obtain ⟨ps, h1, h2, h3, h4⟩ := sf_pds h.2
    exact ⟨.list ps, by simp [pd, h1], by rw [PyData.canLay0]; exact h2, by rw [PyData.depth]; omega, by rw [PyData.eqv]; exact h4⟩
  | .dct ks xs, n, h => by simp [sfD] at h
  | .ref m, n, h => by simp [sfD] at h
  | .lam m, n, h => by simp [sfD] at h
  | .scr ns, n, h => by simp [sfD] at h
theorem sf_pds : ∀ {xs : List D} {n : Nat}, sfDs n xs = true → ∃ ps, pds xs = some ps ∧ PyData.canLayAll0 ps = true ∧ PyData.depthAll ps ≤ n ∧ PyData.eqvAll ps ps = true
  | [], n, h => ⟨[], by simp [pds], by simp [PyData.canLayAll0], by simp [PyData.depthAll], by simp [PyData.eqvAll]⟩
  | x :: xs, n, h => by
    rw [sfDs, Bool.and_eq_true] at h
    obtain ⟨p, a1, a2, a3, a4⟩ := sf_pd h.1
    obtain ⟨ps, b1, b2, b3, b4⟩ := sf_pds h.2
    exact ⟨p :: ps, by simp [pds, a1, b1], by rw [PyData.canLayAll0, a2, b2]; rfl, by rw [PyData.depthAll]; omega, by rw [PyData.eqvAll, a4, b4]; rfl⟩
end
theorem eqB_self {xs : List D} (h : sfD 60 (.lst xs) = true) : dEqB (.lst xs) (.lst xs) = some true := by
  obtain ⟨p, h1, h2, h3, h4⟩ := sf_pd h
  have hs : SeqAt.shaped p = true := by
    unfold SeqAt.shaped
    rw [h2, Bool.true_and]
    exact decide_eq_true (by omega)
  unfold dEqB
  simp only [h1, hs, h4, Bool.and_self, if_true]
theorem eqA_self {μ : Sto} {xs : List D} (h : sfD 60 (.lst xs) = true) : dEqA μ (.lst xs) (.lst xs) = some (.bl true) := dEqA_of (eqB_self h)
theorem neA_self {μ : Sto} {xs : List D} (h : sfD 60 (.lst xs) = true) : dNeA μ (.lst xs) (.lst xs) = some (.bl false) := dNeA_of (eqB_self h)
/-- nx, the slots as said; the store is not looked at -/
def isNxE : Option SOut → En → Bool
  | some (.nx ρ _), ρ1 => eqEn ρ ρ1
  | _, _ => false
theorem isNxE_eq {r : Option SOut} {ρ : En} (h : isNxE r ρ = true) : ∃ μ, r = some (.nx ρ μ) := by
  unfold isNxE at h
  split at h
  · exact ⟨_, by rw [eqEn_eq h]⟩
  · cases h
end Mi

set_option Elab.async false
set_option linter.all false
set_option maxRecDepth 100000
set_option maxHeartbeats 4000000
namespace PySem
theorem F.args_min4 (a b c d : Value) : argsOk "min" ⟨[a, b, c, d], []⟩ := by unfold argsOk; kernel_rfl
section
variable {prog : Program} {w : World} {A : Around} {E : Value → Shared → Prop} {s : Shared}
theorem call_min_four {a b c d : Value} {Q : Value → Shared → Prop}
    (h : wpAny (model prog w) A.in1 (pyIter (.ref s.heap.objs.size)) (fun it s₂ => ∃ I fp wr n P St bt, it = .ref I ∧ Walks prog w A.in1 I fp wr n P St ∧ St 0 s₂.heap ∧ (∀ b ∈ fp, b < s₂.heap.objs.size) ∧ 0 < n ∧ CmpOf prog w A.in1 .Lt P bt ∧
      ∀ v h' tk, P (argBest bt (n - 1)) v → (∀ b o, b ∉ wr → s₂.heap.get? b = some o → h'.get? b = some o) → Q v { s₂ with heap := h', toks := tk }) E
      { s with heap := s.heap.push { cls := .type "tuple", data := .seq #[a, b, c, d] } }) :
    wpAny (model prog w) A (call (.builtin "min") [a, b, c, d]) Q E s := by
  have hname : (toString "min" ++ toString ".loop" : String) = "min.loop" := by decide
  refine call_function_tree F.kind_min F.plain_min F.entry_min (F.args_min4 _ _ _ _) ?_
  show wpAny _ A.in1 (Builtin.Builtins.bindParams "min" ["key", "default"] 0 ⟨[], []⟩ >>= _) _ _ s
  refine wpAny_bind (wpAny_of_eq (show Builtin.Builtins.bindParams "min" ["key", "default"] 0 ⟨[], []⟩ = pure [none, none] from rfl) ?_)
  show wpAny _ A.in1 (newTuple [a, b, c, d] >>= _) _ _ s
  refine wpAny_bind (wpAny_newObj_type ?_)
  refine wpAny_bind (wpAny_mono h (fun it s₂ h₂ => ?_) fun _ _ e => e)
  obtain ⟨I, fp, wr, n, P, St, bt, rfl, W, hst, hfp, hn, hcmp, hQ⟩ := h₂
  refine wpAny_bind (wpAny_newObj_type ?_)
  have hSf : s₂.heap.objs.size ∉ fp := fun hm => Nat.lt_irrefl _ (hfp _ hm)
  rw [hname]
  refine wpAny_pure ⟨plainId_quiet F.plain_min_loop _, codeAny_min_loop_first W bt hcmp s₂.heap.objs.size hSf hn (W.frame _ _ _ hst fun b _ o e => Heap.get?_push_of_some _ e) (Heap.get?_push_size _ rfl) fun v h' tk hP hk => ?_⟩
  exact hQ v h' tk hP fun b o hbw e => hk b o hbw (Nat.ne_of_lt (Heap.lt_size e)) (Heap.get?_push_of_some _ e)
theorem min_four_ints {a b c d : Int} {t u x y : Tok} {Q : Value → Shared → Prop} (hh : A.handled = none)
    (h : ∀ h' tk m z, (∀ c o, s.heap.get? c = some o → h'.get? c = some o) → (m = a ∨ m = b ∨ m = c ∨ m = d) → m ≤ a → m ≤ b → m ≤ c → m ≤ d → Q (.int m z) { s with heap := h', toks := tk }) :
    wpAny (model prog w) A (call (.builtin "min") [.int a t, .int b u, .int c x, .int d y]) Q E s := by
  have hT : (s.heap.push { cls := .type "tuple", data := .seq #[.int a t, .int b u, .int c x, .int d y] }).IsTuple s.heap.objs.size (intItems #[(a, t), (b, u), (c, x), (d, y)]) := ⟨_, Heap.get?_push_size _ rfl, rfl, 0, by simp [intItems]⟩
  refine call_min_four (wpAny_pyIter_tuple hT ?_)
  have hsz : (s.heap.push { cls := .type "tuple", data := .seq #[.int a t, .int b u, .int c x, .int d y] }).objs.size = s.heap.objs.size + 1 := Heap.size_push ..
  refine ⟨_, [_, s.heap.objs.size], [_], _, _, _, _, rfl, Walks.tuple (A := A.in1) hh _ s.heap.objs.size (by rw [hsz]; exact Nat.ne_of_lt (Nat.lt_succ_self _)) (intItems #[(a, t), (b, u), (c, x), (d, y)]),
    ⟨⟨_, Heap.get?_push_size _ rfl, rfl, rfl⟩, hT.push _⟩, fun c hc => ?_, by simp [intItems], CmpOf.ints_lt (numAt #[(a, t), (b, u), (c, x), (d, y)]) (fun _ _ => intItems_at), fun v h' tk hP hk => ?_⟩
  · show c < ((s.heap.push _).push _).objs.size
    rw [Heap.size_push, hsz]
    rcases List.mem_cons.mp hc with rfl | hc
    · rw [hsz]; exact Nat.lt_succ_self _
    · rcases List.mem_cons.mp hc with rfl | hc
      · exact Nat.lt_succ_of_lt (Nat.lt_succ_self _)
      · cases hc
  · have hold : ∀ c o, s.heap.get? c = some o → h'.get? c = some o := fun c o e => by
      refine hk c o (fun hm => ?_) (Heap.get?_push_of_some _ (Heap.get?_push_of_some _ e))
      rcases List.mem_cons.mp hm with e1 | hm
      · have := Heap.lt_size e; rw [e1, hsz] at this; exact Nat.lt_irrefl _ (Nat.lt_of_succ_lt this)
      · cases hm
    have hsz2 : (intItems #[(a, t), (b, u), (c, x), (d, y)]).size - 1 = 3 := by simp [intItems]
    have hP' : (intItems #[(a, t), (b, u), (c, x), (d, y)])[argBest (fun i j => decide (numAt #[(a, t), (b, u), (c, x), (d, y)] i < numAt #[(a, t), (b, u), (c, x), (d, y)] j)) 3]? = some v := by
      rw [← hsz2]; exact hP
    obtain ⟨z, rfl⟩ := intItems_at hP'
    obtain ⟨h1, h2⟩ := PySem.argBest_lt (numAt #[(a, t), (b, u), (c, x), (d, y)]) 3
    generalize argBest (fun i j => decide (numAt #[(a, t), (b, u), (c, x), (d, y)] i < numAt #[(a, t), (b, u), (c, x), (d, y)] j)) 3 = k at *
    have n0 := h2 0 (by omega)
    have n1 := h2 1 (by omega)
    have n2 := h2 2 (by omega)
    have n3 := h2 3 (by omega)
    refine h h' tk _ z hold ?_ n0 n1 n2 n3
    have hk' : k = 0 ∨ k = 1 ∨ k = 2 ∨ k = 3 := by omega
    rcases hk' with rfl | rfl | rfl | rfl
    · exact .inl rfl
    · exact .inr (.inl rfl)
    · exact .inr (.inr (.inl rfl))
    · exact .inr (.inr (.inr rfl))
end
end PySem
namespace Mi
open PySem L2
def maxI : List Int → Option Int
  | [] => none
  | x :: xs => some (xs.foldl (fun a b => if a < b then b else a) x)
def minI : List Int → Option Int
  | [] => none
  | x :: xs => some (xs.foldl (fun a b => if b < a then b else a) x)
theorem foldmax : ∀ (xs : List Int) (a : Int), (xs.foldl (fun a b => if a < b then b else a) a = a ∨ xs.foldl (fun a b => if a < b then b else a) a ∈ xs) ∧ a ≤ xs.foldl (fun a b => if a < b then b else a) a ∧ ∀ x ∈ xs, x ≤ xs.foldl (fun a b => if a < b then b else a) a
  | [], a => ⟨.inl rfl, Int.le_refl _, fun _ h => nomatch h⟩
  | x :: xs, a => by
    obtain ⟨h1, h2, h3⟩ := foldmax xs (if a < x then x else a)
    rw [List.foldl_cons]
    generalize xs.foldl (fun a b => if a < b then b else a) (if a < x then x else a) = m at *
    refine ⟨?_, by split at h2 <;> omega, fun y hy => ?_⟩
    · rcases h1 with h1 | h1
      · split at h1
        · exact .inr (by rw [h1]; exact List.mem_cons_self)
        · exact .inl h1
      · exact .inr (List.mem_cons_of_mem _ h1)
    · rcases List.mem_cons.mp hy with e | e
      · rw [e]; split at h2 <;> omega
      · exact h3 y e
theorem foldmin : ∀ (xs : List Int) (a : Int), (xs.foldl (fun a b => if b < a then b else a) a = a ∨ xs.foldl (fun a b => if b < a then b else a) a ∈ xs) ∧ xs.foldl (fun a b => if b < a then b else a) a ≤ a ∧ ∀ x ∈ xs, xs.foldl (fun a b => if b < a then b else a) a ≤ x
  | [], a => ⟨.inl rfl, Int.le_refl _, fun _ h => nomatch h⟩
  | x :: xs, a => by
    obtain ⟨h1, h2, h3⟩ := foldmin xs (if x < a then x else a)
    rw [List.foldl_cons]
    generalize xs.foldl (fun a b => if b < a then b else a) (if x < a then x else a) = m at *
    refine ⟨?_, by split at h2 <;> omega, fun y hy => ?_⟩
    · rcases h1 with h1 | h1
      · split at h1
        · exact .inr (by rw [h1]; exact List.mem_cons_self)
        · exact .inl h1
      · exact .inr (List.mem_cons_of_mem _ h1)
    · rcases List.mem_cons.mp hy with e | e
      · rw [e]; split at h2 <;> omega
      · exact h3 y e
theorem maxI_of {ns : List Int} {m : Int} (h : maxI ns = some m) : m ∈ ns ∧ ∀ y ∈ ns, y ≤ m := by
  cases ns with
  | nil => cases h
  | cons x xs =>
    obtain ⟨h1, h2, h3⟩ := foldmax xs x
    cases h
    refine ⟨?_, fun y hy => ?_⟩
    · rcases h1 with h1 | h1
      · rw [h1]; exact List.mem_cons_self
      · exact List.mem_cons_of_mem _ h1
    · rcases List.mem_cons.mp hy with e | e
      · rw [e]; exact h2
      · exact h3 y e
theorem minI_of {ns : List Int} {m : Int} (h : minI ns = some m) : m ∈ ns ∧ ∀ y ∈ ns, m ≤ y := by
  cases ns with
  | nil => cases h
  | cons x xs =>
    obtain ⟨h1, h2, h3⟩ := foldmin xs x
    cases h
    refine ⟨?_, fun y hy => ?_⟩
    · rcases h1 with h1 | h1
      · rw [h1]; exact List.mem_cons_self
      · exact List.mem_cons_of_mem _ h1
    · rcases List.mem_cons.mp hy with e | e
      · rw [e]; exact h2
      · exact h3 y e
def dMaxL (μ : Sto) : List D → Option D
  | [d] => (match vw μ d with
    | some xs => (match intsD xs with
      | some ns => (match maxI ns with
        | some m => some (.int m)
        | none => none)
      | none => none)
    | none => none)
  | _ => none
def dMinL (μ : Sto) : List D → Option D
  | [d] => (match vw μ d with
    | some xs => (match intsD xs with
      | some ns => (match minI ns with
        | some m => some (.int m)
        | none => none)
      | none => none)
    | none => none)
  | _ => none
def dMin4 (_ : Sto) : List D → Option D
  | [.int a, .int b, .int c, .int d] => (match minI [a, b, c, d] with
    | some m => some (.int m)
    | none => none)
  | _ => none
section
variable {g : Gb} {k : Nat} {Λ : Lr}
theorem dc_maxL : DCall g k Λ (.builtin "max") dMaxL := by
  intro X ok pins s σ H xs us Q I r ⟨ι, μ, ds, d, m, rs, e, q⟩
  unfold dMaxL at e
  split at e
  · split at e
    · rename_i ys hy
      split at e
      · rename_i ns hn
        split at e
        · rename_i mm hm
          cases e
          obtain ⟨v, rfl, rv⟩ := rs.inv1
          obtain ⟨a, vs, rfl, h2, h3⟩ := vw_rd m rv hy
          rw [ints_eq hn] at h3
          have := h3.ints
          subst this
          obtain ⟨m1, m2⟩ := maxI_of hm
          exact cr_max ok.calm pins s σ H _ us Q I r ⟨a, ns, rfl, .inl h2, List.length_pos_of_mem m1, fun z z1 z2 => by
            have : z = mm := by have := z2 _ m1; have := m2 _ z1; omega
            rw [this]
            exact q ι H _ (.refl _ _) m rfl⟩
        · cases e
      · cases e
    · cases e
  · cases e
theorem dc_minL : DCall g k Λ (.builtin "min") dMinL := by
  intro X ok pins s σ H xs us Q I r ⟨ι, μ, ds, d, m, rs, e, q⟩
  unfold dMinL at e
  split at e
  · split at e
    · rename_i ys hy
      split at e
      · rename_i ns hn
        split at e
        · rename_i mm hm
          cases e
          obtain ⟨v, rfl, rv⟩ := rs.inv1
          obtain ⟨a, vs, rfl, h2, h3⟩ := vw_rd m rv hy
          rw [ints_eq hn] at h3
          have := h3.ints
          subst this
          obtain ⟨m1, m2⟩ := minI_of hm
          exact cr_min ok.calm pins s σ H _ us Q I r ⟨a, ns, rfl, .inl h2, List.length_pos_of_mem m1, fun z z1 z2 => by
            have : z = mm := by have := z2 _ m1; have := m2 _ z1; omega
            rw [this]
            exact q ι H _ (.refl _ _) m rfl⟩
        · cases e
      · cases e
    · cases e
  · cases e
theorem dc_min4 : DCall g k Λ (.builtin "min") dMin4 := by
  intro X ok pins s σ H xs us Q I r ⟨ι, μ, ds, d, m, rs, e, q⟩
  unfold dMin4 at e
  split at e
  · rename_i a b c d
    split at e
    · rename_i mm hm
      cases e
      obtain ⟨v1, r1, rfl, h1, rs⟩ := rs
      obtain ⟨v2, r2, rfl, h2, rs⟩ := rs
      obtain ⟨v3, r3, rfl, h3, rs⟩ := rs
      obtain ⟨v4, r4, rfl, h4, rs⟩ := rs
      cases h1; cases h2; cases h3; cases h4
      have : r4 = [] := rs
      subst this
      obtain ⟨m1, m2⟩ := minI_of hm
      cases r with
      | cons e1 r =>
        cases r with
        | cons e2 r =>
          cases r with
          | cons e3 r =>
            cases r with
            | cons e4 r =>
              cases r
              obtain ⟨t1, rfl⟩ := e1
              obtain ⟨t2, rfl⟩ := e2
              obtain ⟨t3, rfl⟩ := e3
              obtain ⟨t4, rfl⟩ := e4
              refine PySem.min_four_ints (I.ok.hd ok.calm) fun h' tk m' z hk hm' l1 l2 l3 l4 => ?_
              have em : m' = mm := by
                have a1 := m2 a (by simp)
                have a2 := m2 b (by simp)
                have a3 := m2 c (by simp)
                have a4 := m2 d (by simp)
                simp only [List.mem_cons, List.not_mem_nil, or_false] at m1
                omega
              subst em
              exact ⟨.int m', H, I.kept hk, ⟨_, rfl⟩, q ι H _ (.refl _ _) m rfl⟩
    · cases e
  · cases e
end
end Mi

set_option Elab.async false
set_option linter.all false
set_option maxRecDepth 100000
set_option maxHeartbeats 4000000
namespace Mi
open PySem L2
/-! ### dict displays that are written to later -/
section
variable {K : PySem.W.Frag} {Λ : Lr} {ι : List Addr} {H : Hp} {p : Addr} {g : Gb} {μ : Sto}
theorem nin {a : Addr} (hp : p ∈ Λ.av) (h : a ∉ ι ∧ a ∉ Λ.av) : a ∉ ι ++ [p] ∧ a ∉ Λ.av := ⟨fun z => by
  rcases List.mem_append.mp z with z | z
  · exact h.1 z
  · exact h.2 (by rw [show a = p by simpa using z]; exact hp), h.2⟩
mutual
theorem Rep.push (hp : p ∈ Λ.av) (hq : ∀ c q, H p ≠ some (LamX.CodeO c q)) : ∀ (d : D) {v : V}, Rep K Λ ι H d v → Rep K Λ (ι ++ [p]) H d v
  | .non, _, h => h
  | .bl _, _, h => h
  | .int _, _, h => h
  | .str _, _, h => h
  | .tup xs, _, ⟨a, vs, h1, h2, h3⟩ => ⟨a, vs, h1, h2.elim (fun h => .inl ⟨h.1, nin hp h.2⟩) .inr, Reps.push hp hq xs h3⟩
  | .lst xs, _, ⟨a, vs, h1, h2, h3⟩ => ⟨a, vs, h1, ⟨h2.1, nin hp h2.2⟩, Reps.push hp hq xs h3⟩
  | .dct ks xs, _, ⟨a, kvs, h1, h2, h3, h4, h5⟩ => ⟨a, kvs, h1, h2, nin hp h3, h4, Reps.push hp hq xs h5⟩
  | .ref n, _, ⟨a, h1, h2⟩ => ⟨a, h1, by rw [List.getElem?_append_left (List.getElem?_eq_some_iff.mp h2).1]; exact h2⟩
  | .lam n, _, ⟨a, c, q, u, h1, h2, h3, h4, h5, h6, h7⟩ => ⟨a, c, q, u, h1, h2, h3, nin hp h4, h5, fun z => by
      rcases List.mem_append.mp z with z | z
      · exact h6 z
      · exact hq c q (by rw [← show c = p by simpa using z]; exact h5), h7⟩
  | .scr ns, _, ⟨a, h1, h2⟩ => ⟨a, h1, h2.elim (fun h => .inl ⟨h.1, nin hp h.2⟩) .inr⟩
theorem Reps.push (hp : p ∈ Λ.av) (hq : ∀ c q, H p ≠ some (LamX.CodeO c q)) : ∀ (ds : List D) {vs : List V}, Reps K Λ ι H ds vs → Reps K Λ (ι ++ [p]) H ds vs
  | [], _, h => h
  | d :: ds, _, ⟨v, r, h1, h2, h3⟩ => ⟨v, r, h1, Rep.push hp hq d h2, Reps.push hp hq ds h3⟩
end
theorem MR.push {so : SO} (m : MR g Λ ι H μ) (hp : p ∈ Λ.av) (hi : p ∉ ι) (hq : ∀ c q, H p ≠ some (LamX.CodeO c q)) (hob : ObjR g Λ (ι ++ [p]) H so p) : MR g Λ (ι ++ [p]) H (μ ++ [so]) := by
  refine ⟨by simp [m.len], List.nodup_append.mpr ⟨m.nd, by simp, fun a ha b hb => ?_⟩, fun n so' q => ?_, m.tabs, m.avs⟩
  · rw [show b = p by simpa using hb]
    exact fun z => hi (by rw [← z]; exact ha)
  · by_cases hn : n < μ.length
    · rw [List.getElem?_append_left hn] at q
      obtain ⟨a, h1, h2⟩ := m.ob n so' q
      refine ⟨a, by rw [List.getElem?_append_left (List.getElem?_eq_some_iff.mp h1).1]; exact h1, ?_⟩
      cases so' with
      | lst xs => obtain ⟨vs, h3, h4⟩ := h2; exact ⟨vs, h3, Reps.push (Λ := Λ.pure) hp hq xs h4⟩
      | dct ks xs => obtain ⟨vs, h3, h5, h4⟩ := h2; exact ⟨vs, h3, h5, Reps.push (Λ := Λ.pure) hp hq xs h4⟩
      | ins c fs xs => obtain ⟨dx, vs, h3, h4, h5, h6, h7⟩ := h2; exact ⟨dx, vs, h3, nin hp h4, h5, h6, Reps.push (Λ := Λ.pure) hp hq xs h7⟩
    · have hl : n = μ.length := by
        have := (List.getElem?_eq_some_iff.mp q).1
        simp at this
        omega
      subst hl
      rw [List.getElem?_concat_length] at q
      cases q
      exact ⟨p, by rw [← m.len, List.getElem?_concat_length], hob⟩
end
def bDctM (kfs : List (Key × Cb D)) : Cb D := fun ρ μ => if kfs.length ≤ 15 ∧ (kfs.map (·.1)).Nodup then ob (bVals kfs ρ μ) fun xs μ1 => if lamfs xs = true then some (.ok (.ref μ1.length) (μ1 ++ [.dct (kfs.map (·.1)) xs])) else none else none
/-- d.update(e) -/
def mergeKD (ks : List Key) (xs : List D) : List Key → List D → List Key × List D
  | j :: js, y :: ys => mergeKD (putKD ks xs j y).1 (putKD ks xs j y).2 js ys
  | _, _ => (ks, xs)
def updPut (μ : Sto) (x y : D) : Option Sto := match x, y with
  | .ref n, .dct js ys => (match μ[n]? with
    | some (.dct ks xs) => if ks.length + js.length ≤ 16777216 ∧ lamfs ys = true then some (μ.set n (.dct (mergeKD ks xs js ys).1 (mergeKD ks xs js ys).2)) else none
    | _ => none)
  | _, _ => none
def bUpd (fo fd : Cb D) : Cb D := fun ρ μ => ob (fo ρ μ) fun x μ1 => if isDct μ1 x = true then ob (fd ρ μ1) fun y μ2 => (match updPut μ2 x y with
  | some μ3 => some (.ok .non μ3)
  | none => none) else none
def bDct0 : Cb D := fun _ μ => some (.ok (.dct [] []) μ)
section
variable {g : Gb} {k j : Nat} {Λ : Lr} {X : Cx} {W : WX} {ι : List Addr} {H : Hp} {μ : Sto} {o e : Expr} {apos cpos pos : Pos} {fo fd : Cb D}
theorem de_dct0 : DE g k Λ X W (.Dict [] [] pos) bDct0 := fun ok tk => PE.imp pe_dnewK fun σ H Q ⟨ι, ρ, μ, r, l, m, e, p⟩ => by
  cases e
  intro q hq
  exact p ι _ (.ref q) (.of_sam (sam_upd hq)) (m.sam (sam_upd hq)) ⟨q, [], rfl, .inl upd_same, m.fresh hq, rfl, rfl⟩
theorem d_upd {pins : List (Addr × Obj)} {σ : St} {s : Shared} {a b : Addr} {kvs more : List (Key × V)} {A : Around} {E : Value → Shared → Prop} {Q : Value → Shared → Prop} (I : Inv X pins σ H s) (e : H a = some (.dK kvs)) (eb : Rd H b (.dK more)) (hab : a ≠ b) (hz : kvs.length + more.length ≤ sizeLine)
    (h : ∀ s', Inv X pins σ (upd H a (.dK (mergeK kvs more))) s' → Q .none s') : wpAny (model X.prog X.w) A (call (.builtin "dict.update") [.ref a, .ref b]) Q E s := by
  obtain ⟨z, hd, vs, rel, dd⟩ := dk_of I.hok e
  obtain ⟨z2, hd2, ws, rel2, dd2⟩ := dk_rd I.hok eb
  refine call_meetsIn PySem.F.slot_dict_update dd.typeIs PySem.F.entry_dict_update (PySem.F.args_dict_update_2 _ _) (meets_dict_update (mixKind X.prog X.w) a b hab hd2)
    ⟨vs, ws, dd, dd2, by rw [← rel.length, ← rel2.length]; exact hz, fun h' dd' _ hs => h _ ?_⟩
  have he : ∃ q, h'.get? a = some q := let ⟨q, _, _, hq, _⟩ := dd'; ⟨q, hq⟩
  exact d_write I (by rw [e]; exact True.intro) hs he (dk_new (Nat.le_trans (length_mergeK more kvs) hz) hd (KV.merge rel2 rel) dd')
def tDUpd (td ty : TE) : TE := fun σ H Q => td σ H fun x H1 => ∃ a, x = .ref a ∧ IsD H1 a ∧ ty σ H1 fun y H2 => ∃ b kvs more, y = .ref b ∧ H2 a = some (.dK kvs) ∧ Rd H2 b (.dK more) ∧ a ≠ b ∧ kvs.length + more.length ≤ sizeLine ∧ Q .non (upd H2 a (.dK (mergeK kvs more)))
theorem pe_dupd {td ty : TE} (ho : PE X o td) (he : PE X e ty) (m : M1 X o "update" apos e cpos) : PE X (.Call (.Attribute o "update" apos) [e] [] cpos) (tDUpd td ty) := by
  refine ⟨fun pins s σ H Q I h => ?_⟩
  refine wpAny_Call_method m.base m.few m.line PySem.F.plainAttrs_dict PySem.F.slot_dict_update PySem.F.type_dict_update (thn (ho.run pins s σ H _ I h) fun u s1 ⟨x, H1, I1, rx, a, ex, d, q1⟩ => ?_)
  subst ex
  obtain rfl : u = Value.ref a := rx
  obtain ⟨t1, t2, _⟩ := isD_at I1 d
  refine ⟨t1, t2, ?_⟩
  rw [m.trees]
  refine Calls.callWith_builtin rfl (Calls.evalArgs_plain (Calls.spliced_cons (thn (he.run pins s1 σ H1 _ I1 q1) fun iv s2 ⟨y, H2, I2, ry, b, kvs, more, ey, ea, eb, hab, hz, q2⟩ => Calls.spliced_nil ?_)))
  subst ey
  obtain rfl : iv = Value.ref b := ry
  exact d_upd I2 ea eb hab hz fun s3 I3 => ⟨.non, _, I3, rfl, q2⟩
theorem merge_rd : ∀ {js : List Key} {ys : List D} {more : List (Key × V)} {ks : List Key} {xs : List D} {kvs : List (Key × V)}, more.map (·.1) = js → Reps g.K Λ ι H ys (more.map (·.2)) → kvs.map (·.1) = ks → Reps g.K Λ ι H xs (kvs.map (·.2)) →
    (mergeK kvs more).map (·.1) = (mergeKD ks xs js ys).1 ∧ Reps g.K Λ ι H (mergeKD ks xs js ys).2 ((mergeK kvs more).map (·.2))
  | [], ys, more, ks, xs, kvs, h1, h2, h3, h4 => by
    have : more = [] := by simpa using h1
    subst this
    exact ⟨h3, h4⟩
  | j :: js, [], more, ks, xs, kvs, h1, h2, h3, h4 => by
    have := h2
    have e : more.map (·.2) = [] := this
    have : more = [] := by simpa using e
    subst this
    cases h1
  | j :: js, y :: ys, [], ks, xs, kvs, h1, h2, h3, h4 => by cases h1
  | j :: js, y :: ys, kv :: more, ks, xs, kvs, h1, h2, h3, h4 => by
    rw [List.map_cons, List.cons.injEq] at h1
    obtain ⟨v, r, e1, e2, e3⟩ := h2
    rw [List.map_cons, List.cons.injEq] at e1
    have hy : Rep g.K Λ ι H y kv.2 := by rw [e1.1]; exact e2
    obtain ⟨a1, a2⟩ := putK_rd (j := kv.1) hy h3 h4
    rw [h1.1] at a1 a2
    have := merge_rd (js := js) (ys := ys) (more := more) h1.2 (by rw [e1.2]; exact e3) (kvs := putK kvs j kv.2) a1 a2
    have em : mergeK kvs (kv :: more) = mergeK (putK kvs j kv.2) more := by
      show mergeK (putK kvs kv.1 kv.2) more = _
      rw [h1.1]
    rw [em]
    exact this
theorem de_upd (ho : DE g k Λ X W o fo) (hi : DE g k Λ X W e fd) (hm : M1 X o "update" apos e cpos := by exact ⟨rfl, rfl, rfl, rfl⟩) : DE g k Λ X W (.Call (.Attribute o "update" apos) [e] [] cpos) (bUpd fo fd) := fun ok tk =>
  PE.imp (pe_dupd (ho ok tk) (hi ok tk) hm) fun σ H Q ⟨ι, ρ, μ, r, l, m, e, p⟩ => go_E (X1 := True) l m e p.px fun x μ1 ι1 H1 v e1 e2 x1 m1 l1 r1 => by
    split at e2
    · rename_i hd
      obtain ⟨ad, rfl, hD⟩ := isD_rd m1 r1 hd
      refine ⟨ad, rfl, hD, go_E (X1 := True) l1 m1 e2 (p.ext x1).px fun y μ2 ι2 H2 yv e3 e4 x2 m2 l2 r2 => ?_⟩
      split at e4
      · rename_i μ3 hu
        cases e4
        unfold updPut at hu
        split at hu
        · rename_i n js ys
          split at hu
          · rename_i ks xs hn
            split at hu
            · rename_i hz
              cases hu
              obtain ⟨b, more, rfl, hb, hbi, hb1, hb2⟩ := r2
              obtain ⟨ad', ea, had⟩ := Rep.ext x2 _ r1
              cases ea
              obtain ⟨a2, h3, kvs, h4, h5, h6⟩ := m2.ob n _ hn
              rw [had] at h3
              cases h3
              have hne : ad ≠ b := fun z => hbi.1 (by rw [← z]; exact List.mem_of_getElem? had)
              have hp2 : Reps g.K Λ.pure ι2 H2 ys (more.map (·.2)) := Reps.lam (Λ := Λ) (Λ' := Λ.pure) rfl ys hz.2 hb2
              obtain ⟨y1, y2⟩ := merge_rd hb1 hp2 h5 h6
              obtain ⟨z1, z2⟩ := m2.setO (so := .dct (mergeKD ks xs js ys).1 (mergeKD ks xs js ys).2) (o := .dK (mergeK kvs more)) hn had (by intro ps z; cases z) fun ex => ⟨mergeK kvs more, upd_same, y1, Reps.ext ex _ y2⟩
              have l1' : kvs.length = ks.length := by rw [← h5, List.length_map]
              have l2' : more.length = js.length := by rw [← hb1, List.length_map]
              refine ⟨b, kvs, more, rfl, h4, hb, hne, by rw [sizeLine_eq]; omega, ((p.ext x1).ext x2) ι2 _ .non z1 z2 rfl⟩
            · cases hu
          · cases hu
        · cases hu
      · cases e4
    · cases e2
end
section
variable {g : Gb} {k : Nat} {Λ : Lr} {X : Cx} {W : WX} {pos : Pos} {a : Expr} {fa : Cb D}
theorem de_dctM {keys : List (Option Expr)} {values : List Expr} {kfs : List (Key × Cb D)} (h : DPs g k Λ X W pos keys values kfs) (hall : keys.all (·.isSome) = true := by rfl) (hl : keys.length = values.length := by rfl) (h0 : keys ≠ [] := by intro z; cases z) (h15 : keys.length ≤ 15 := by decide) : DE g k Λ X W (.Dict keys values pos) (bDctM kfs) := fun ok tk =>
  PE.imp (pe_disp (h ok tk) hall hl h0 h15) fun σ H Q ⟨ι, ρ, μ, r, l, m, e, p⟩ => by
    unfold bDctM at e
    split at e
    · rename_i hk
      intro q hq
      have fr := m.fresh hq
      have lq : LR g (Λ.add q) ι (upd H q (.dK [])) σ ρ := LR.add l hq
      have mq : MR g (Λ.add q) ι (upd H q (.dK [])) μ := m.add hq (by intro ps z; cases z)
      have x0 : Ext ι H ι (upd H q (.dK [])) := .of_sam (sam_upd hq)
      cases q2 : bVals kfs ρ μ with
      | none => rw [q2] at e; cases e
      | some o =>
        rw [q2] at e
        refine ps_rd kfs ι _ μ _ lq mq q2 ?_
        cases o with
        | exc c μ2 => cases e; exact fun ι' H' x' m' => p ι' H' (x0.trans x') m'.sub
        | ok ds μ2 =>
          have e : (if lamfs ds = true then some (Out.ok (D.ref μ2.length) (μ2 ++ [.dct (kfs.map (·.1)) ds])) else none) = some r := e
          split at e
          · rename_i lf
            cases e
            intro ι' H' us x' m' rs hl
            have hd : H' q = some (.dK []) := x'.keep q _ upd_same (by intro ps z; cases z) fr.1
            have nq : q ∉ ι' := x'.notin upd_same (by intro ps z; cases z) fr.1
            have hl' : (kfs.map (·.1)).length = us.length := by simpa using hl
            refine ⟨hd, (kfs.map (·.1)).zip us, rfl, by rw [List.length_zip]; simp; omega, ?_⟩
            have em : mergeK [] ((kfs.map (·.1)).zip us) = (kfs.map (·.1)).zip us := by
              have := merge_nodup (kfs.map (·.1)) us [] [] rfl (by simpa using hk.2)
              simpa using this
            rw [em]
            have avq : q ∈ (Λ.add q).av := List.mem_cons_self
            have hnq : ∀ c z, H' q ≠ some (LamX.CodeO c z) := fun c z e => by rw [hd] at e; unfold LamX.CodeO at e; cases e
            have hnq2 : ∀ c z, upd H' q (.dK ((kfs.map (·.1)).zip us)) q ≠ some (LamX.CodeO c z) := fun c z e => by rw [upd_same] at e; unfold LamX.CodeO at e; cases e
            have M2 := m'.out avq nq hd (by intro ps z; cases z) (by intro c z e; unfold LamX.CodeO at e; cases e) (o := .dK ((kfs.map (·.1)).zip us)) (by intro ps z; cases z)
            have R2 : Reps g.K (Λ.add q) ι' (upd H' q (.dK ((kfs.map (·.1)).zip us))) ds us := Reps.out avq hnq ds rs
            have M3 := (M2.push avq nq hnq2 (so := .dct (kfs.map (·.1)) ds) ⟨(kfs.map (·.1)).zip us, upd_same, zip_fst hl', by
              rw [zip_snd hl']
              exact Reps.lam (Λ := Λ.add q) (Λ' := (Λ.add q).pure) rfl ds lf (Reps.push avq hnq2 ds R2)⟩).sub
            refine p (ι' ++ [q]) _ (.ref q) ?_ M3 ⟨q, rfl, by rw [← m'.len, List.getElem?_concat_length]⟩
            have x2 := x0.trans x'
            refine ⟨?_, fun b o hb nt ni => ?_, fun b n => x2.nt b ?_⟩
            · obtain ⟨rr, e1, e2⟩ := x2.pre
              refine ⟨rr ++ [q], by rw [e1, List.append_assoc], fun b hb => ?_⟩
              rcases List.mem_append.mp hb with z | z
              · exact e2 b z
              · rw [show b = q by simpa using z]
                exact .of_none hq
            · rw [upd_ne (ne_of_none hb hq)]
              exact x2.keep b o hb nt ni
            · intro o eo
              by_cases z : b = q
              · rw [z] at n
                exact (n.no upd_same (by intro ps z; cases z)).elim
              · exact n o (by rw [upd_ne z]; exact eo)
          · cases e
    · cases e
end
end Mi

set_option Elab.async false
set_option linter.all false
set_option maxRecDepth 100000
set_option maxHeartbeats 4000000
namespace Mi
open PySem PySem.Spec PyProof.Rows L2
/-! ### slices with a step, list.index -/
def stepIx (lo hi : Option Int) (st : Int) (n : Nat) : List Nat := sliceRange (sliceBounds lo hi (some st) n).1 (sliceBounds lo hi (some st) n).2.1 (sliceBounds lo hi (some st) n).2.2
def pickL {α : Type} (xs : List α) (ix : List Nat) : List α := ix.filterMap (xs[·]?)
def dSl3 (μ : Sto) (x : D) (lo hi : Option Int) (st : Int) : Option D := match vw μ x with
  | some xs => if st ≠ 0 ∧ xs.length ≤ 16777216 then some (.lst (pickL xs (stepIx lo hi st xs.length))) else none
  | none => none
def bSl3 (fa : Cb D) (fl fh fs : Cb (Option Int)) : Cb D := fun ρ μ => ob (fa ρ μ) fun d μ1 => ob (fl ρ μ1) fun lo μ2 => ob (fh ρ μ2) fun hi μ3 => ob (fs ρ μ3) fun st μ4 => (match st with
  | some k => rt (dSl3 μ4 d lo hi k) μ4
  | none => none)
section
variable {X : Cx} {e : Expr} {te : TE} {lo hi : Option Expr} {st : Expr} {tl th ts : TO} {p2 pos : Pos}
def tSl3 (r : V → Option Int → Option Int → Option Int → Hp → VK → Prop) (te : TE) (tl th ts : TO) : TE := fun σ H Q => te σ H fun x H1 => tl σ H1 fun l H2 => th σ H2 fun u H3 => ts σ H3 fun k H4 => r x l u k H4 Q
def rSl3 (K : PySem.W.Frag) : V → Option Int → Option Int → Option Int → Hp → VK → Prop := fun x lo hi st H Q => ∃ a xs k, x = .ref a ∧ st = some k ∧ k ≠ 0 ∧ SqL K H a xs ∧ ∀ p, H p = none → Q (.ref p) (upd H p (.lst (pickL xs (stepIx lo hi k xs.length))))
theorem vals_pick {xs : List V} {us : List Value} (r : Vals xs us) : ∀ ix : List Nat, Vals (pickL xs ix) (pickL us ix)
  | [] => .nil
  | i :: ix => by
    have ih := vals_pick r ix
    unfold pickL at ih ⊢
    by_cases h : i < xs.length
    · have e1 : xs[i]? = some xs[i] := List.getElem?_eq_getElem h
      obtain ⟨u, hu, ru⟩ := r.get e1
      rw [List.filterMap_cons, List.filterMap_cons, e1, hu]
      exact .cons ru ih
    · have e1 : xs[i]? = none := List.getElem?_eq_none (by omega)
      have e2 : us[i]? = none := List.getElem?_eq_none (by rw [← r.length]; omega)
      rw [List.filterMap_cons, List.filterMap_cons, e1, e2]
      exact ih
theorem pe_slice3 (he : PE X e te) (hl : PO X lo tl) (hu : PO X hi th) (hs : PO X (some st) ts) : PE X (.Subscript e (.Slice lo hi (some st) p2) pos) (tSl3 (rSl3 X.K) te tl th ts) := by
  refine ⟨fun pins s σ H Q I h => ?_⟩
  refine Subscript_ (thn (he.run pins s σ H _ I h) fun v s1 ⟨x, H1, I1, r1, q1⟩ => ?_)
  refine wpAny_Slice (thn (hl.run pins s1 σ H1 _ I1 q1) fun vl s2 ⟨l, H2, I2, pl, q2⟩ => thn (hu.run pins s2 σ H2 _ I2 q2) fun vu s3 ⟨u, H3, I3, pu, q3⟩ => thn (hs.run pins s3 σ H3 _ I3 q3) fun vs s4 ⟨k, H4, I4, ps, q4⟩ => ?_)
  obtain ⟨a, xs, kk, rfl, rfl, hk, hx, q⟩ := q4
  cases r1
  have I5 : Inv X pins σ H4 { s4 with heap := s4.heap.push { cls := .type "slice", data := .fields #[vl, vu, vs] } } := I4.kept (t' := s4.toks) fun b ob q => Heap.get?_push_of_some _ q
  obtain ⟨its, r, ht, hz⟩ := I5.list hx
  have hlen := r.length
  have hg : wpAny (model X.prog X.w) X.A (getItem (.ref a) (.ref s4.heap.objs.size)) (EP X pins σ Q) X.xe { s4 with heap := s4.heap.push { cls := .type "slice", data := .fields #[vl, vu, vs] } } := by
    refine wpAny_getItem_list_slice ht.isList (Heap.IsSliceOf.new ..) pl pu ps (by simpa using hk) ?_ (by rw [List.size_toArray] <;> omega)
    have hsp : slicePick its.toArray l u (some kk) = (pickL its (stepIx l u kk xs.length)).toArray := by
      unfold slicePick pickL stepIx
      rw [List.size_toArray, hlen]
      congr 1
      have hf : (fun x : Nat => its.toArray[x]?) = fun x => its[x]? := by funext x; simp
      rw [hf]
    rw [hsp]
    have I6 := I5
    refine ⟨.ref _, _, I6.laid (t' := s4.toks) (o := .lst (pickL xs (stepIx l u kk xs.length))) (fun b ob q => Heap.get?_push_of_some _ q) (Nat.le_refl _) ?_, rfl, q _ (I6.hok.fresh (Nat.le_refl _))⟩
    have hle : (pickL xs (stepIx l u kk xs.length)).length ≤ sizeLine := by
      have h1 : (slicePick its.toArray l u (some kk)).size ≤ its.toArray.size := by exact slicePick_size_le _ _ _ _
      rw [hsp, List.size_toArray, List.size_toArray] at h1
      have h2 := (vals_pick r (stepIx l u kk xs.length)).length
      omega
    exact ⟨hle, _, 0, vals_pick r _, Heap.get?_push_size _ rfl⟩
  show wpAny (model X.prog X.w) X.A (subscriptTail e (.Slice lo hi (some st) p2) (.ref a) (.ref s4.heap.objs.size)) (EP X pins σ Q) X.xe { s4 with heap := s4.heap.push { cls := .type "slice", data := .fields #[vl, vu, vs] } }
  exact tail_any (ops := [.ref a, .ref s4.heap.objs.size]) ht.isList.typeIs slot_list_getitem.lookup hg (by with_unfolding_all rfl)
end
section
variable {g : Gb} {k : Nat} {Λ : Lr} {X : Cx} {W : WX} {pos p2 : Pos} {a st : Expr} {fa : Cb D}
theorem reps_pick {ι : List Addr} {H : Hp} {ds : List D} {vs : List V} (r : Reps g.K Λ ι H ds vs) : ∀ ix : List Nat, Reps g.K Λ ι H (pickL ds ix) (pickL vs ix)
  | [] => rfl
  | i :: ix => by
    have ih := reps_pick r ix
    unfold pickL at ih ⊢
    by_cases h : i < ds.length
    · have e1 : ds[i]? = some ds[i] := List.getElem?_eq_getElem h
      obtain ⟨v, hv, rv⟩ := r.get e1
      rw [List.filterMap_cons, List.filterMap_cons, e1, hv]
      exact ⟨v, _, rfl, rv, ih⟩
    · have e1 : ds[i]? = none := List.getElem?_eq_none (by omega)
      have e2 : vs[i]? = none := List.getElem?_eq_none (by rw [← r.len]; omega)
      rw [List.filterMap_cons, List.filterMap_cons, e1, e2]
      exact ih
theorem de_sl3 {lo hi : Option Expr} {fl fh fs : Cb (Option Int)} (ha : DE g k Λ X W a fa) (hl : DO_ g k Λ X W lo fl) (hh : DO_ g k Λ X W hi fh) (hs : DO_ g k Λ X W (some st) fs) : DE g k Λ X W (.Subscript a (.Slice lo hi (some st) p2) pos) (bSl3 fa fl fh fs) := fun ok tk =>
  PE.imp (pe_slice3 (ha ok tk) (hl ok tk) (hh ok tk) (hs ok tk)) fun σ H Q ⟨ι, ρ, μ, r, l, m, e, p⟩ => go_E (X1 := True) l m e p.px fun d μ1 ι1 H1 v e1 e2 x1 m1 l1 r1 =>
    go_O l1 m1 e2 (p.ext x1).px fun lo μ2 ι2 H2 _ e3 x2 m2 l2 => go_O l2 m2 e3 ((p.ext x1).ext x2).px fun hi μ3 ι3 H3 _ e4 x3 m3 l3 => go_O l3 m3 e4 (((p.ext x1).ext x2).ext x3).px fun st μ4 ι4 H4 _ e5 x4 m4 l4 => by
      have p4 := (((p.ext x1).ext x2).ext x3).ext x4
      have r4 := ((r1.ext x2).ext x3).ext x4
      cases st with
      | none => cases e5
      | some kk =>
        obtain ⟨z, hz, rfl⟩ := rt_some e5
        unfold dSl3 at hz
        split at hz
        · rename_i xs hv
          split at hz
          · rename_i hk
            cases hz
            obtain ⟨ad, vs, rfl, h2, h3⟩ := vw_rd m4 r4 hv
            refine ⟨ad, vs, kk, rfl, rfl, hk.1, .inl h2, fun p hp => ?_⟩
            rw [← h3.len]
            obtain ⟨y1, y2, y3⟩ := new_lst m4 hp (reps_pick h3 (stepIx lo hi kk xs.length))
            exact p4 _ _ _ y1 y2 y3
          · cases hz
        · cases hz
end
end Mi

set_option Elab.async false
set_option linter.all false
set_option maxRecDepth 100000
set_option maxHeartbeats 4000000
namespace Mi
open PySem PySem.Spec PyProof.Rows L2
/-! ### list.index of ints, of texts -/
def strsD : List D → Option (List Str)
  | [] => some []
  | .str s :: r => (match strsD r with
    | some ss => some (s :: ss)
    | none => none)
  | _ => none
theorem strs_eq : ∀ {ds : List D} {ss : List Str}, strsD ds = some ss → ds = ss.map .str
  | [], _, h => by cases h; rfl
  | d :: r, ss, h => by
    cases d <;> first | (simp only [strsD] at h; split at h <;> first | (cases h; rename_i q; rw [List.map_cons, ← strs_eq q]; done) | (cases h; done)) | (simp [strsD] at h; done)
theorem strsD_map : ∀ ss : List Str, strsD (ss.map .str) = some ss
  | [] => rfl
  | s :: ss => by simp [strsD, strsD_map ss]
def dIndex (μ : Sto) (x y : D) : Option D := match vw μ x, y with
  | some xs, .int i => (match intsD xs with
    | some ns => (match ns.findIdx? (fun n => decide (n = i)) with
      | some j => some (.int j)
      | none => none)
    | none => none)
  | some xs, .str s => (match strsD xs with
    | some ss => (match ss.findIdx? (fun n => decide (n = s)) with
      | some j => some (.int j)
      | none => none)
    | none => none)
  | _, _ => none
def bIdxM (fo fd : Cb D) : Cb D := fun ρ μ => ob (fo ρ μ) fun x μ1 => if isLst μ1 x = true then ob (fd ρ μ1) fun y μ2 => rt (dIndex μ2 x y) μ2 else none
section
variable {g : Gb} {k : Nat} {Λ : Lr} {X : Cx} {W : WX} {pos apos : Pos} {a b : Expr} {fo fd : Cb D}
theorem find_ix {α : Type} {p : α → Bool} : ∀ {xs : List α} {j : Nat}, xs.findIdx? p = some j → (∃ x, xs[j]? = some x ∧ p x = true) ∧ ∀ m x, m < j → xs[m]? = some x → p x = false := fun {xs j} h => by
  obtain ⟨hl, h1, h2⟩ := List.findIdx?_eq_some_iff_getElem.mp h
  refine ⟨⟨xs[j], List.getElem?_eq_getElem hl, h1⟩, fun m x hm hx => ?_⟩
  obtain ⟨q, e⟩ := List.getElem?_eq_some_iff.mp hx
  rw [← e]
  simpa using h2 m hm
theorem de_index (ho : DE g k Λ X W a fo) (hd : DE g k Λ X W b fd) (hbase : attributeBase a "index" X.env (eval a X.env) = eval a X.env := by rfl)
    (hfew : ((backTo pos (starEach [b] X.env)).all (fun x => !x.1) && (backToKw pos (keywordEach [] X.env)).all (fun x => x.1.isSome)
      && decide (([b] : List Expr).length + ([] : List Keyword).length + (if ([] : List Keyword).isEmpty then 0 else 1) < 30)) = true := by rfl)
    (hline : (apos.endLine == pos.line) = true := by rfl) (hs : starEach [b] X.env = (false, eval b X.env) :: starEach [] X.env := by rfl) (hpl : (backTo pos (starEach [] X.env)).any (·.1) = false := by rfl) :
    DE g k Λ X W (.Call (.Attribute a "index" apos) [b] [] pos) (bIdxM fo fd) := fun ok tk =>
  PE.imp (pe_bm F.plainAttrs_list F.slot_list_index F.type_list_index mt_index (ho ok tk) (pa_cons (hd ok tk) pa_nil hs) hbase hfew hline hs hpl) fun σ H Q ⟨ι, ρ, μ, r, l, m, e, p⟩ => go_E (X1 := True) l m e p.px fun x μ1 ι1 H1 v e1 e2 x1 m1 l1 r1 => by
    split at e2
    · rename_i hl
      have ty : tyV X.K "list" v H1 := by
        unfold isLst at hl
        cases q : vw μ1 x with
        | none => rw [q] at hl; cases hl
        | some xs =>
          obtain ⟨ad, vs, rfl, h2, _⟩ := vw_rd m1 r1 q
          exact .inl ⟨rfl, vs, .inl h2⟩
      refine ⟨ty, go_E (X1 := True) l1 m1 e2 (p.ext x1).px fun d μ2 ι2 H2 u e3 e4 x2 m2 l2 r2 => ?_⟩
      obtain ⟨z, hz, rfl⟩ := rt_some e4
      have r1' := Rep.ext x2 x r1
      have p2 := (p.ext x1).ext x2
      unfold dIndex at hz
      split at hz
      · rename_i xs i hv
        split at hz
        · rename_i ns hn
          split at hz
          · rename_i j hj
            cases hz
            obtain ⟨ad, vs, rfl, h2, h3⟩ := vw_rd m2 r1' hv
            rw [ints_eq hn] at h3
            have := h3.ints
            subst this
            cases r2
            obtain ⟨⟨x0, hx0, hp⟩, hno⟩ := find_ix hj
            refine ⟨ad, ns.map V.int, .int i, j, .int x0, rfl, rfl, .inl h2, rfl, List.all_eq_true.mpr fun w hw => ?_, by rw [List.getElem?_map, hx0]; rfl, ?_, fun mm z' hm hz' => ?_, p2 ι2 H2 _ (.refl _ _) m2 rfl⟩
            · obtain ⟨q, _, rfl⟩ := List.mem_map.mp hw; rfl
            · show (x0 == i) = true
              simpa using hp
            · rw [List.getElem?_map] at hz'
              obtain ⟨q, hq, rfl⟩ := Option.map_eq_some_iff.mp hz'
              have := hno mm q hm hq
              show (q == i) = false
              simpa using this
          · cases hz
        · cases hz
      · rename_i xs i hv
        split at hz
        · rename_i ns hn
          split at hz
          · rename_i j hj
            cases hz
            obtain ⟨ad, vs, rfl, h2, h3⟩ := vw_rd m2 r1' hv
            rw [strs_eq hn] at h3
            have hvs : vs = ns.map V.str := by
              clear hn hj h2 hv
              induction ns generalizing vs with
              | nil => exact h3
              | cons n ns ih =>
                obtain ⟨v, rr, rfl, e1, e2⟩ := h3
                cases e1
                rw [ih _ e2]
                rfl
            subst hvs
            cases r2
            obtain ⟨⟨x0, hx0, hp⟩, hno⟩ := find_ix hj
            refine ⟨ad, ns.map V.str, .str i, j, .str x0, rfl, rfl, .inl h2, rfl, List.all_eq_true.mpr fun w hw => ?_, by rw [List.getElem?_map, hx0]; rfl, ?_, fun mm z' hm hz' => ?_, p2 ι2 H2 _ (.refl _ _) m2 rfl⟩
            · obtain ⟨q, _, rfl⟩ := List.mem_map.mp hw; rfl
            · show (x0 == i) = true
              simpa using hp
            · rw [List.getElem?_map] at hz'
              obtain ⟨q, hq, rfl⟩ := Option.map_eq_some_iff.mp hz'
              have := hno mm q hm hq
              show (q == i) = false
              simpa using this
          · cases hz
        · cases hz
      · cases hz
    · cases e2
end
end Mi

set_option linter.all false
set_option maxRecDepth 100000
set_option maxHeartbeats 4000000
namespace Mw
open PySem Mi L2
/-! ### what the laws' walks share: rows, dice, comprehensions over ints, loops -/
abbrev Rows := List (Int × Int)
def mx (a b : Int) : Int := if b > a then b else a
def mn (a b : Int) : Int := if b < a then b else a
def inc : Rows → Prop
  | a :: b :: r => a.1 < b.1 ∧ inc (b :: r)
  | _ => True
def R : Rows → Int → Int
  | [], _ => 0
  | [p], _ => p.2
  | p :: q :: r, a => if a < q.1 then p.2 else R (q :: r) a
def flatR (ps : Rows) : List Int := ps.flatMap fun p => List.replicate p.1.toNat p.2
def l0 : Rows → Int
  | [] => 0
  | p :: _ => p.1
@[simp] theorem l0_c (p : Int × Int) (r : Rows) : l0 (p :: r) = p.1 := rfl
theorem mx_e (a b : Int) : mx a b = max a b := by unfold mx; split <;> omega
theorem mn_e (a b : Int) : mn a b = min a b := by unfold mn; split <;> omega
structure WB (bs : Rows) : Prop where
  first : ∃ r rest, bs = (0, r) :: rest
  inc : inc bs
  rate : ∀ p ∈ bs, 0 ≤ p.2 ∧ p.2 ≤ 1000
  len : bs.length ≤ 20
  small : ∀ p ∈ bs, 0 ≤ p.1 ∧ p.1 ≤ 100000
theorem WB.ne {bs : Rows} (h : WB bs) : bs ≠ [] := by
  obtain ⟨r, rest, e⟩ := h.first
  rw [e]; simp
theorem WB.l0 {bs : Rows} (h : WB bs) : l0 bs = 0 := by
  obtain ⟨r, rest, e⟩ := h.first
  rw [e]; rfl
theorem R_in : ∀ (bs : Rows) (a : Int), bs ≠ [] → ∃ p ∈ bs, R bs a = p.2
  | [], _, h => absurd rfl h
  | [p], a, _ => ⟨p, by simp, rfl⟩
  | p :: q :: r, a, _ => by
    show ∃ x ∈ p :: q :: r, (if a < q.1 then p.2 else R (q :: r) a) = x.2
    split
    · exact ⟨p, by simp, rfl⟩
    · obtain ⟨x, h1, h2⟩ := R_in (q :: r) a (by simp)
      exact ⟨x, List.mem_cons_of_mem _ h1, h2⟩
theorem WB.R {bs : Rows} (h : WB bs) (a : Int) : 0 ≤ R bs a ∧ R bs a ≤ 1000 := by
  obtain ⟨p, h1, h2⟩ := R_in bs a h.ne
  rw [h2]; exact h.rate p h1
theorem last_R : ∀ (bs : Rows) (a : Int), bs ≠ [] → inc bs → l0 bs ≤ a → ((bs.filter fun p => decide (p.1 ≤ a)).map (·.2)).getLast? = some (R bs a)
  | [], _, h, _, _ => absurd rfl h
  | [p], a, _, _, hl => by
    have hl : p.1 ≤ a := hl
    simp [hl, R]
  | p :: q :: r, a, _, h, hl => by
    have hl : p.1 ≤ a := hl
    rw [List.filter_cons_of_pos (by simpa using hl), List.map_cons]
    show _ = some (if a < q.1 then p.2 else R (q :: r) a)
    by_cases hq : a < q.1
    · rw [if_pos hq]
      have key : ∀ (r : Rows) (q : Int × Int), inc (q :: r) → a < q.1 → (q :: r).filter (fun p => decide (p.1 ≤ a)) = [] := fun r => by
        induction r with
        | nil => intro q _ hq; simp; omega
        | cons s r ih =>
          intro q hi hq
          have h1 : q.1 < s.1 := hi.1
          rw [List.filter_cons_of_neg (by simp; omega)]
          exact ih s hi.2 (by omega)
      rw [key r q h.2 hq]
      rfl
    · rw [if_neg hq]
      have := last_R (q :: r) a (by simp) h.2 (by show q.1 ≤ a; omega)
      rw [List.getLast?_cons, this]
      rfl
def rwD (ps : Rows) : List D := ps.map fun p => .tup [.int p.1, .int p.2]
theorem lamfs_rw : ∀ ps : Rows, lamfs (rwD ps) = true
  | [] => rfl
  | p :: ps => by
    show lamfs (D.tup [.int p.1, .int p.2] :: rwD ps) = true
    simp [lamfs, lamf, lamfs_rw ps]
theorem purs_rw : ∀ ps : Rows, purs (rwD ps) = true
  | [] => rfl
  | p :: ps => by
    show purs (D.tup [.int p.1, .int p.2] :: rwD ps) = true
    simp [purs, pur, purs_rw ps]
theorem rwD_len (a : Rows) : (rwD a).length = a.length := by unfold rwD; simp
theorem set_last {μ : Sto} {x y : SO} : (μ ++ [x]).set μ.length y = μ ++ [y] := by
  rw [List.set_append_right _ _ (Nat.le_refl _)]
  simp
theorem get_last {μ : Sto} {x : SO} : (μ ++ [x])[μ.length]? = some x := by simp
theorem dMax2_m {μ : Sto} {i j : Int} : dMax2 μ [.int i, .int j] = some (.int (mx i j)) := rfl
theorem dMin2_m {μ : Sto} {i j : Int} : dMin2 μ [.int i, .int j] = some (.int (mn i j)) := rfl
theorem mul_nn {a b : Int} (h1 : 0 ≤ a) (h2 : 0 ≤ b) : 0 ≤ a * b := Int.mul_nonneg h1 h2
theorem cgo_any {t : Tg} {fe : Cb D} {ρ : En} {μ : Sto} : ∀ (ds : List D), (∀ d ∈ ds, ∃ ρ1, t d ρ μ = some (ρ1, μ) ∧ fe ρ1 μ = some (.ok (.bl false) μ)) → cgo t bYes fe stAny (fun _ => some (.bl false)) ds () ρ μ = some (.ok (.bl false) μ)
  | [], _ => rfl
  | d :: ds, h => by
    obtain ⟨ρ1, h1, h2⟩ := h d List.mem_cons_self
    unfold cgo
    rw [h1]
    simp only [bYes_s, h2]
    exact cgo_any ds fun d hd => h d (List.mem_cons_of_mem _ hd)
theorem cgo_all {t : Tg} {fe : Cb D} {ρ : En} {μ : Sto} : ∀ (ds : List D), (∀ d ∈ ds, ∃ ρ1, t d ρ μ = some (ρ1, μ) ∧ fe ρ1 μ = some (.ok (.bl true) μ)) → cgo t bYes fe stAll (fun _ => some (.bl true)) ds () ρ μ = some (.ok (.bl true) μ)
  | [], _ => rfl
  | d :: ds, h => by
    obtain ⟨ρ1, h1, h2⟩ := h d List.mem_cons_self
    unfold cgo
    rw [h1]
    simp only [bYes_s, h2]
    exact cgo_all ds fun d hd => h d (List.mem_cons_of_mem _ hd)
theorem cut_1 {α : Type} (x : α) (xs : List α) : cutD (x :: xs) (some 1) none = xs := by
  unfold cutD
  simp [HT.sIx]
theorem inc_get : ∀ {bs : Rows} {i : Nat} {p q : Int × Int}, inc bs → bs[i]? = some p → bs[i + 1]? = some q → p.1 < q.1
  | [], _, _, _, _, h, _ => by simp at h
  | [a], i, _, _, _, _, h => by simp at h
  | a :: b :: r, 0, p, q, hi, h1, h2 => by
    simp at h1 h2
    rw [← h1, ← h2]
    exact hi.1
  | a :: b :: r, i + 1, p, q, hi, h1, h2 => inc_get (bs := b :: r) (i := i) hi.2 (by simpa using h1) (by simpa using h2)
theorem atI_last {α : Type} (xs : List α) : atI xs (-1) = xs.getLast? := by
  unfold atI ixN
  rw [if_neg (by omega)]
  cases xs with
  | nil => rfl
  | cons x r =>
    have h : (-1 : Int) + ((x :: r).length : Nat) = (r.length : Int) := by rw [List.length_cons]; omega
    rw [List.getLast?_eq_getElem?]
    rw [List.length_cons] at h ⊢
    have h1 : (0 : Int) ≤ -1 + ((r.length + 1 : Nat) : Int) := by omega
    have h2 : (-1 + ((r.length + 1 : Nat) : Int)).toNat = r.length := by omega
    have h3 : -((r.length + 1 : Nat) : Int) ≤ -1 := by omega
    have h4 : ¬ (-1 : Int) < -((r.length + 1 : Nat) : Int) := by omega
    simp only [h1, h2, h3, if_true]
    rfl
theorem cl_R {bs : Rows} {ρ : En} {μ : Sto} {a b c : Nat} {v : Int} (hz : bs.length ≤ 1000) (ha : a < ρ.length) (hb : b < ρ.length) (hab : a ≠ b) (hca : a ≠ c) (hcb : b ≠ c) (hc : ρ[c]? = some (some (.int v))) :
    cl (tgTup [tgName a, tgName b]) (bTst (bBin dLe (bVar a) (bVar c))) (bVar b) (rwD bs) [] ρ μ = some (.ok (((bs.filter fun p => decide (p.1 ≤ v)).map (·.2)).map .int) μ) := by
  have e := cl_pure (t := tgTup [tgName a, tgName b]) (fc := bTst (bBin dLe (bVar a) (bVar c))) (fe := bVar b) (ρ := ρ) (μ := μ) (fun d => match d with | .tup [.int l, .int r] => decide (l ≤ v) | _ => false) (fun d => match d with | .tup [.int l, .int r] => .int r | _ => .non) (rwD bs) [] (fun d hd => by
    obtain ⟨p, hp, rfl⟩ := List.mem_map.mp hd
    have ga : ((ρ.set a (some (.int p.1))).set b (some (.int p.2)))[a]? = some (some (.int p.1)) := by rw [List.getElem?_set_ne hab.symm, List.getElem?_set_self ha]
    have gc : ((ρ.set a (some (.int p.1))).set b (some (.int p.2)))[c]? = some (some (.int v)) := by rw [List.getElem?_set_ne hcb, List.getElem?_set_ne hca, hc]
    have gb : ((ρ.set a (some (.int p.1))).set b (some (.int p.2)))[b]? = some (some (.int p.2)) := by rw [List.getElem?_set_self (by simpa using hb)]
    refine ⟨(ρ.set a (some (.int p.1))).set b (some (.int p.2)), by simp, ?_, fun _ => ?_⟩
    · simp only [bTst_s, bBin_s, bVar_s, ga, gc, ob, dLe_i, rt]
    · simp only [bVar_s, gb]) (by rw [rwD_len]; simp; omega)
  rw [e, List.nil_append]
  congr 2
  unfold rwD
  rw [List.filter_map, List.map_map, List.map_map]
  congr 1
theorem at_R {bs : Rows} (wb : WB bs) {v : Int} (hv : 0 ≤ v) : atI (((bs.filter fun p => decide (p.1 ≤ v)).map (·.2)).map D.int) (-1) = some (.int (R bs v)) := by
  rw [atI_last, List.getLast?_map, last_R bs v wb.ne wb.inc (by rw [wb.l0]; exact hv)]
  rfl
def rwP (ps : Rows) : List PyData := ps.map fun p => .tuple [.int p.1, .int p.2]
theorem pds_rw : ∀ ps : Rows, pds (rwD ps) = some (rwP ps)
  | [] => rfl
  | p :: ps => by
    show pds (D.tup [.int p.1, .int p.2] :: rwD ps) = some (PyData.tuple [.int p.1, .int p.2] :: rwP ps)
    simp [pds, pd, pds_rw ps]
theorem lay_rw : ∀ ps : Rows, PyData.canLayAll0 (rwP ps) = true
  | [] => by simp [rwP, PyData.canLayAll0]
  | p :: ps => by
    show PyData.canLayAll0 (PyData.tuple [.int p.1, .int p.2] :: rwP ps) = true
    simp [PyData.canLayAll0, PyData.canLay0, lay_rw ps]
theorem dep_rw : ∀ ps : Rows, PyData.depthAll (rwP ps) ≤ 10
  | [] => by simp [rwP, PyData.depthAll]
  | p :: ps => by
    have := dep_rw ps
    show PyData.depthAll (PyData.tuple [.int p.1, .int p.2] :: rwP ps) ≤ 10
    simp only [PyData.depthAll, PyData.depth]
    omega
theorem eqv_rw : ∀ a b : Rows, PyData.eqvAll (rwP a) (rwP b) = decide (a = b)
  | [], [] => by simp [rwP, PyData.eqvAll]
  | [], y :: ys => by simp [rwP, PyData.eqvAll]
  | x :: xs, [] => by simp [rwP, PyData.eqvAll]
  | x :: xs, y :: ys => by
    show PyData.eqvAll (PyData.tuple [.int x.1, .int x.2] :: rwP xs) (PyData.tuple [.int y.1, .int y.2] :: rwP ys) = _
    rw [PyData.eqvAll, eqv_rw xs ys]
    simp only [PyData.eqv, PyData.eqvAll, beq_dec, Bool.and_true]
    rw [Bool.eq_iff_iff]
    simp [Prod.ext_iff]
theorem sh_rwT (ps : Rows) : SeqAt.shaped (.tuple (rwP ps)) = true := by
  have := dep_rw ps
  unfold SeqAt.shaped
  rw [PyData.canLay0, lay_rw, PyData.depth, Bool.true_and]
  refine decide_eq_true ?_
  omega
theorem sh_rwL (ps : Rows) : SeqAt.shaped (.list (rwP ps)) = true := by
  have := dep_rw ps
  unfold SeqAt.shaped
  rw [PyData.canLay0, lay_rw, PyData.depth, Bool.true_and]
  refine decide_eq_true ?_
  omega
theorem eqB_rwT (a b : Rows) : dEqB (.tup (rwD a)) (.tup (rwD b)) = some (decide (a = b)) := by
  unfold dEqB
  simp only [pd, pds_rw, sh_rwT, PyData.eqv, eqv_rw, Bool.and_self, if_true, ite_true]
theorem eqB_rwL (a b : Rows) : dEqB (.lst (rwD a)) (.lst (rwD b)) = some (decide (a = b)) := by
  unfold dEqB
  simp only [pd, pds_rw, sh_rwL, PyData.eqv, eqv_rw, Bool.and_self, if_true, ite_true]
theorem wl_meas {t : Cb Bool} {b : Cs} (I : Nat → En → Sto → Prop) (Q : En → Sto → Prop) (step : ∀ (k : Nat) (ρ : En) (μ : Sto), I k ρ μ → (∃ μ1, t ρ μ = some (.ok true μ1) ∧ ∃ j ρ2 μ2, j < k ∧ b ρ μ1 = some (.nx ρ2 μ2) ∧ I j ρ2 μ2) ∨ (∃ μ1, t ρ μ = some (.ok false μ1) ∧ Q ρ μ1)) :
    ∀ (n k : Nat), k < n → ∀ (ρ : En) (μ : Sto), I k ρ μ → ∃ ρ' μ', wl t b n ρ μ = some (.nx ρ' μ') ∧ Q ρ' μ'
  | 0, k, h, _, _, _ => by omega
  | n + 1, k, h, ρ, μ, hI => by
    rcases step k ρ μ hI with ⟨μ1, h1, j, ρ2, μ2, hj, h2, h3⟩ | ⟨μ1, h1, h2⟩
    · obtain ⟨ρ', μ', e, q⟩ := wl_meas I Q step n j (by omega) ρ2 μ2 h3
      refine ⟨ρ', μ', ?_, q⟩
      unfold wl
      rw [h1]
      simp [h2, e]
    · refine ⟨ρ, μ1, ?_, h2⟩
      unfold wl
      rw [h1]
      simp
theorem foldl_app : ∀ (xs acc : List D), xs.foldl (fun a d => a ++ [d]) acc = acc ++ xs
  | [], acc => by simp
  | x :: xs, acc => by rw [List.foldl_cons, foldl_app xs]; simp
theorem fl_find {b : Cs} {v : Nat} (P : Int → Bool) (I : En → Prop) {μ0 : Sto} : ∀ (xs : List Int) (ρ : En) (μ : Sto), I ρ → Pre μ0 μ → (∀ x ∈ xs, ∀ ρ μ, I ρ → Pre μ0 μ → if P x = true then ∃ μ', b (ρ.set v (some (.int x))) μ = some (.rt (.int x) μ') ∧ Pre μ μ' else ∃ ρ2 μ', b (ρ.set v (some (.int x))) μ = some (.nx ρ2 μ') ∧ I ρ2 ∧ Pre μ μ') →
    ∃ μ', Pre μ μ' ∧ match xs.find? P with
      | some x => fl (tgName v) b (xs.map .int) ρ μ = some (.rt (.int x) μ')
      | none => ∃ ρ', I ρ' ∧ fl (tgName v) b (xs.map .int) ρ μ = some (.nx ρ' μ')
  | [], ρ, μ, hI, _, _ => ⟨μ, .refl _, ρ, hI, rfl⟩
  | x :: xs, ρ, μ, hI, hp, h => by
    have h0 := h x List.mem_cons_self ρ μ hI hp
    have eu : fl (tgName v) b ((x :: xs).map .int) ρ μ = (match b (ρ.set v (some (.int x))) μ with
      | some (.nx ρ2 μ2) => fl (tgName v) b (xs.map .int) ρ2 μ2
      | some (.ct ρ2 μ2) => fl (tgName v) b (xs.map .int) ρ2 μ2
      | some (.bk ρ2 μ2) => some (.nx ρ2 μ2)
      | r => r) := rfl
    rw [List.find?_cons]
    cases hx : P x with
    | true =>
      rw [hx, if_pos rfl] at h0
      obtain ⟨μ', e, q⟩ := h0
      refine ⟨μ', q, ?_⟩
      show fl (tgName v) b ((x :: xs).map .int) ρ μ = some (.rt (.int x) μ')
      rw [eu, e]
    | false =>
      rw [hx, if_neg (by decide)] at h0
      obtain ⟨ρ2, μ2, e, hI2, q⟩ := h0
      obtain ⟨μ', q2, r⟩ := fl_find P I xs ρ2 μ2 hI2 (hp.trans q) fun y hy => h y (List.mem_cons_of_mem _ hy)
      refine ⟨μ', q.trans q2, ?_⟩
      rw [eu, e]
      exact r
def Keep (μ μ' : Sto) : Prop := ∀ (i : Nat) (so : SO), μ[i]? = some so → μ'[i]? = some so
theorem Pre.keep {μ μ' : Sto} (h : Pre μ μ') : Keep μ μ' := fun _ _ e => h.get e
theorem intsD_map : ∀ xs : List Int, intsD (xs.map .int) = some xs
  | [] => rfl
  | x :: xs => by simp [intsD, intsD_map xs]
theorem lamfs_ints : ∀ xs : List Int, lamfs (xs.map D.int) = true
  | [] => rfl
  | x :: xs => by simp [lamfs, lamf, lamfs_ints xs]
theorem purs_ints : ∀ xs : List Int, purs (xs.map D.int) = true
  | [] => rfl
  | x :: xs => by simp [purs, pur, purs_ints xs]
def DiceAt (μ : Sto) : Prop := ∃ a b c, μ[0]? = some (.lst [.int a, .int b, .int c])
def Go (μ μ' : Sto) : Prop := (DiceAt μ → DiceAt μ') ∧ ∀ (i : Nat) (so : SO), i ≠ 0 → μ[i]? = some so → μ'[i]? = some so
theorem Go.refl (μ : Sto) : Go μ μ := ⟨id, fun _ _ _ h => h⟩
theorem Go.trans {a b c : Sto} (h : Go a b) (k : Go b c) : Go a c := ⟨fun d => k.1 (h.1 d), fun i so hi e => k.2 i so hi (h.2 i so hi e)⟩
theorem Keep.go {μ μ' : Sto} (h : Keep μ μ') : Go μ μ' := ⟨fun ⟨a, b, c, e⟩ => ⟨a, b, c, h 0 _ e⟩, fun i so _ e => h i so e⟩
theorem pre_go {μ μ' : Sto} (h : Pre μ μ') : Go μ μ' := (Mw.Pre.keep h).go
theorem rollG {μ : Sto} (h : DiceAt μ) {many : Int} (h0 : 0 < many) (h1 : many ≤ 100000000) : ∃ r μ', 0 ≤ r ∧ r < many ∧ hRoll [.ref 0, .int many] μ = some (.ok (.int r) μ') ∧ Go μ μ' ∧ μ'.length = μ.length := by
  obtain ⟨a, b, c, e⟩ := h
  obtain ⟨r, a', b', c', g1, g2, g3⟩ := hroll_s (n := 0) e h0 h1
  have hl : 0 < μ.length := (List.getElem?_eq_some_iff.mp e).1
  refine ⟨r, _, g1, g2, g3, ⟨fun _ => ⟨a', b', c', List.getElem?_set_self hl⟩, fun i so hi e' => by rw [List.getElem?_set_ne (Ne.symm hi)]; exact e'⟩, by simp⟩
theorem callR {ρ : En} {μ μ' : Sto} {many r : Int} (h0 : ρ[1]? = some (some (.ref 0))) (h : hRoll [.ref 0, .int many] μ = some (.ok (.int r) μ')) : bCallM hRoll (bCons (bVar 1) (bCons (bCon (.int many)) (bNil))) ρ μ = some (.ok (.int r) μ') := by
  simp [h0, lamfs, lamf, h]
theorem cl_rolls {ρ : En} {v : Nat} {many lo : Int} (hv : v ≠ 1) (h0 : ρ[1]? = some (some (.ref 0))) (hm : 0 < many) (hm2 : many ≤ 100000000) : ∀ (n k : Nat) (acc : List Int) (μ : Sto), DiceAt μ → acc.length + n ≤ 1000 →
    ∃ (xs : List Int) (μ' : Sto), cl (tgName v) bYes (bCallM hRoll (bCons (bVar 1) (bCons (bCon (.int many)) (bNil)))) ((List.range' k n).map fun i : Nat => D.int (lo + i)) (acc.map .int) ρ μ = some (.ok ((acc ++ xs).map .int) μ') ∧ xs.length = n ∧ (∀ x ∈ xs, 0 ≤ x ∧ x < many) ∧ Go μ μ'
  | 0, k, acc, μ, _, _ => ⟨[], μ, by simp [cl], rfl, by simp, .refl _⟩
  | n + 1, k, acc, μ, hd, hz => by
    obtain ⟨r, μ1, r0, r1, e, g, _⟩ := rollG hd hm hm2
    obtain ⟨xs, μ2, e2, hx, hb, g2⟩ := cl_rolls (lo := lo) hv h0 hm hm2 n (k + 1) (acc ++ [r]) μ1 (g.1 hd) (by simp; omega)
    refine ⟨r :: xs, μ2, ?_, by simp [hx], fun x hx' => ?_, g.trans g2⟩
    · rw [List.range'_succ, List.map_cons]
      unfold cl
      have hc := callR (ρ := ρ.set v (some (.int (lo + (k : Nat))))) (many := many) (by rw [List.getElem?_set_ne hv]; exact h0) e
      simp only [tgName_s, bYes_s, hc]
      rw [if_pos (by simp; omega)]
      have : (acc.map D.int) ++ [.int r] = (acc ++ [r]).map .int := by simp
      rw [this, e2]
      simp
    · rcases List.mem_cons.mp hx' with h | h
      · rw [h]; exact ⟨r0, r1⟩
      · exact hb x h
theorem rng1_z {ρ : En} {fs : Cb (List D)} {z : Int} {μ0 μ : Sto} (hr : -4611686018427387904 ≤ z ∧ z < 4611686018427387904) (hfs : fs ρ μ0 = some (.ok [.int z] μ)) : bRng1 fs ρ μ0 = some (.ok (rngD 0 z.toNat) μ) := by
  rw [bRng1_s, hfs]
  simp only [ob]
  rw [if_pos hr]
theorem rolls_s {ρ : En} {v : Nat} {many : Int} {fs : Cb (List D)} {n : Nat} {μ0 μ : Sto} (hv : v ≠ 1) (h0 : ρ[1]? = some (some (.ref 0))) (hm : 0 < many) (hm2 : many ≤ 100000000) (hd : DiceAt μ) (hn : n ≤ 1000) (hfs : fs ρ μ0 = some (.ok [.int n] μ)) :
    ∃ (xs : List Int) (μ' : Sto), bComp [v] (bRng1 fs) (tgName v) (bYes) (bCallM hRoll (bCons (bVar 1) (bCons (bCon (.int many)) (bNil)))) ρ μ0 = some (.ok (.lst (xs.map .int)) μ') ∧ xs.length = n ∧ (∀ x ∈ xs, 0 ≤ x ∧ x < many) ∧ Go μ μ' := by
  obtain ⟨xs, μ', e, h1, h2, h3⟩ := cl_rolls (ρ := wipeD ρ [v]) (v := v) (many := many) (lo := 0) hv (by show (ρ.set v none)[1]? = _; rw [List.getElem?_set_ne hv]; exact h0) hm hm2 n 0 [] μ hd (by simpa using hn)
  refine ⟨xs, μ', ?_, h1, h2, h3⟩
  have hr : -4611686018427387904 ≤ (n : Int) ∧ (n : Int) < 4611686018427387904 := ⟨by omega, by omega⟩
  have hq : rngD 0 n = (List.range' 0 n).map fun i : Nat => D.int (0 + i) := by unfold rngD; rw [List.range_eq_range']
  have e9 : bRng1 fs ρ μ0 = some (.ok (rngD 0 n) μ) := by
    have := rng1_z hr hfs
    rw [Int.toNat_natCast] at this
    exact this
  have e' : cl (tgName v) bYes (bCallM hRoll (bCons (bVar 1) (bCons (bCon (.int many)) (bNil)))) (rngD 0 n) [] (wipeD ρ [v]) μ = some (.ok (xs.map .int) μ') := by
    rw [hq]
    exact e
  rw [bComp_s, e9]
  show ob (cl (tgName v) bYes (bCallM hRoll (bCons (bVar 1) (bCons (bCon (.int many)) (bNil)))) (rngD 0 n) [] (wipeD ρ [v]) μ) _ = _
  rw [e']
  rfl
def rngI (lo : Int) (n : Nat) : List Int := (List.range n).map fun i => lo + (i : Nat)
theorem rngI_e (lo : Int) (n : Nat) : rngD lo n = (rngI lo n).map .int := by unfold rngD rngI; rw [List.map_map]; rfl
theorem rngI_mem {lo : Int} {n : Nat} {x : Int} (h : x ∈ rngI lo n) : lo ≤ x ∧ x < lo + n := by
  obtain ⟨i, hi, rfl⟩ := List.mem_map.mp h
  rw [List.mem_range] at hi
  omega
theorem rngI_len (lo : Int) (n : Nat) : (rngI lo n).length = n := by unfold rngI; simp
theorem filt_map (P : Int → Bool) (G : Int → Int) (xs : List Int) : ((xs.map D.int).filter fun d => match d with | .int x => P x | _ => false).map (fun d => match d with | .int x => .int (G x) | _ => .non) = ((xs.filter P).map G).map D.int := by
  rw [List.filter_map, List.map_map, List.map_map]
  rfl
theorem comp_int {ρ : En} {μ : Sto} {v : Nat} {fit : Cb (List D)} {fc : Cb Bool} {fe : Cb D} {xs : List Int} (P : Int → Bool) (G : Int → Int) (h : fit ρ μ = some (.ok (xs.map .int) μ)) (hz : xs.length ≤ 1000000)
    (hs : ∀ x ∈ xs, fc (ρ.set v (some (.int x))) μ = some (.ok (P x) μ) ∧ (P x = true → fe (ρ.set v (some (.int x))) μ = some (.ok (.int (G x)) μ))) : bComp [v] fit (tgName v) fc fe ρ μ = some (.ok (.lst (((xs.filter P).map G).map .int)) μ) := by
  have e := cl_pure (t := tgName v) (fc := fc) (fe := fe) (ρ := wipeD ρ [v]) (μ := μ) (fun d => match d with | .int x => P x | _ => false) (fun d => match d with | .int x => .int (G x) | _ => .non) (xs.map .int) [] (fun d hd => by
    obtain ⟨x, hx, rfl⟩ := List.mem_map.mp hd
    obtain ⟨h1, h2⟩ := hs x hx
    have es : (wipeD ρ [v]).set v (some (D.int x)) = ρ.set v (some (.int x)) := List.set_set ..
    exact ⟨_, rfl, by rw [es]; exact h1, fun hp => by rw [es]; exact h2 hp⟩) (by simp; omega)
  rw [bComp_s, h]
  simp only [ob]
  rw [e, List.nil_append, filt_map]
theorem comp_intP {ρ : En} {μ : Sto} {v : Nat} {fit : Cb (List D)} {fc : Cb Bool} {fe : Cb D} {xs : List Int} (P : Int → Bool) (G : Int → Int) (h : fit ρ μ = some (.ok (xs.map .int) μ)) (hz : xs.length ≤ 1000000)
    (hs : ∀ x ∈ xs, ∀ μ1, Pre μ μ1 → ∃ μ2, fc (ρ.set v (some (.int x))) μ1 = some (.ok (P x) μ2) ∧ Pre μ1 μ2 ∧ (P x = true → ∃ μ3, fe (ρ.set v (some (.int x))) μ2 = some (.ok (.int (G x)) μ3) ∧ Pre μ2 μ3)) : ∃ μ', bComp [v] fit (tgName v) fc fe ρ μ = some (.ok (.lst (((xs.filter P).map G).map .int)) μ') ∧ Pre μ μ' := by
  obtain ⟨μ', e, q⟩ := cl_pre (t := tgName v) (fc := fc) (fe := fe) (ρ := wipeD ρ [v]) (μ0 := μ) (fun d => match d with | .int x => P x | _ => false) (fun d => match d with | .int x => .int (G x) | _ => .non) (xs.map .int) [] μ (.refl _) (fun d hd μ1 hp => by
    obtain ⟨x, hx, rfl⟩ := List.mem_map.mp hd
    obtain ⟨μ2, h1, q1, h2⟩ := hs x hx μ1 hp
    have es : (wipeD ρ [v]).set v (some (D.int x)) = ρ.set v (some (.int x)) := List.set_set ..
    exact ⟨_, μ2, rfl, by rw [es]; exact h1, q1, fun hp => by rw [es]; exact h2 hp⟩) (by simp; omega)
  refine ⟨μ', ?_, q⟩
  rw [bComp_s, h]
  simp only [ob]
  rw [e, List.nil_append, filt_map]
theorem ne_self {μ : Sto} (xs : List Int) : dNeA μ (.lst (xs.map .int)) (.lst (xs.map .int)) = some (.bl false) := by rw [dNeA_lst]; simp
theorem ne_nil {μ : Sto} (xs : List Int) : dNeA μ (.lst (xs.map .int)) (.lst []) = some (.bl (!decide (xs = []))) := dNeA_lst xs []
theorem repD_int (n : Nat) (r : Int) : repD n [.int r] = (List.replicate n r).map .int := by
  unfold repD
  induction n with
  | zero => rfl
  | succ n ih => rw [List.replicate_succ, List.replicate_succ, List.flatten_cons, ih]; rfl
theorem vws_reps {μ : Sto} : ∀ ps : Rows, vws μ (ps.map fun p => D.lst (repD p.1.toNat [.int p.2])) = some (ps.map fun p => (List.replicate p.1.toNat p.2).map D.int)
  | [] => rfl
  | p :: ps => by
    rw [List.map_cons, List.map_cons]
    unfold vws
    rw [vws_reps ps]
    simp only [vw, repD_int]
theorem flat_reps : ∀ ps : Rows, (ps.map fun p => (List.replicate p.1.toNat p.2).map D.int).flatten = (flatR ps).map D.int
  | [] => rfl
  | p :: ps => by
    rw [List.map_cons, List.flatten_cons, flat_reps ps]
    show _ = (List.replicate p.1.toNat p.2 ++ flatR ps).map D.int
    rw [List.map_append]
theorem rngI_sorted (lo : Int) (n : Nat) : (rngI lo n).Pairwise (· < ·) := by
  unfold rngI
  rw [List.pairwise_map]
  exact List.Pairwise.imp (fun {a b} (h : a < b) => by omega) List.pairwise_lt_range
theorem dAdd_ll {μ : Sto} (xs ys : List D) (h : xs.length + ys.length ≤ 16777216) : dAdd μ (.lst xs) (.lst ys) = some (.lst (xs ++ ys)) := by
  unfold dAdd
  simp only [vw]
  rw [if_pos h]
theorem head_of {xs : List Int} (P : Int → Bool) {w : Int} (hs : xs.Pairwise (· < ·)) (hw : w ∈ xs) (hp : P w = true) (hn : ∀ x ∈ xs, x < w → P x = false) : ∃ r, xs.filter P = w :: r := by
  have hm : w ∈ xs.filter P := List.mem_filter.mpr ⟨hw, hp⟩
  have hs2 : (xs.filter P).Pairwise (· < ·) := hs.filter _
  cases q : xs.filter P with
  | nil => rw [q] at hm; cases hm
  | cons x r =>
    rw [q] at hm hs2
    have hx : x ∈ xs.filter P := by rw [q]; exact List.mem_cons_self
    rw [List.mem_filter] at hx
    rcases List.mem_cons.mp hm with e | e
    · exact ⟨r, by rw [e]⟩
    · have h1 := (List.pairwise_cons.mp hs2).1 w e
      rw [hn x hx.1 h1] at hx
      cases hx.2
end Mw

set_option Elab.async false
set_option linter.all false
set_option maxRecDepth 100000
set_option maxHeartbeats 4000000
namespace Mi
open PySem L2
/-! ### range with any step -/
def upD (i c : Int) (n : Nat) : List D := (List.range n).map fun j => .int (i + c * (j : Nat))
def bRng3 (f : Cb (List D)) : Cb (List D) := fun ρ μ => ob (f ρ μ) fun ds μ1 => match ds with
  | [.int i, .int j, .int c] => if c ≠ 0 ∧ c.natAbs < 1073741824 ∧ Builtin.Range.small i j c = true ∧ 0 ≤ Builtin.Range.rangeSize i j c then some (.ok (upD i c (Builtin.Range.rangeSize i j c).toNat) μ1) else none
  | _ => none
section
variable {g : Gb} {k : Nat} {Λ : Lr} {X : Cx} {W : WX} {a b c tg : Expr} {pos : Pos} {fs : Cb (List D)}
theorem itk_up {ι : List Addr} {H : Hp} (i c : Int) (n : Nat) : Itk g Λ ι H (Itc i c n) (upD i c n) := fun Λ' _ ι2 H2 μ2 _ _ j => by
  have hl : (upD i c n).length = n := by unfold upD; simp
  refine ⟨fun h => by rw [hl] at h; exact h, fun d hd => ?_⟩
  have hi : j < n := by
    have := (List.getElem?_eq_some_iff.mp hd).1
    rw [hl] at this; exact this
  refine ⟨hi, fun x H3 ⟨e1, e2⟩ => ?_⟩
  rw [e1, e2]
  unfold upD at hd
  rw [List.getElem?_map, List.getElem?_range hi] at hd
  cases hd
  exact ⟨fun _ _ h => h, by show V.int _ = V.int _; congr 1; first | rfl | (rw [Int.mul_comm]) | omega⟩
theorem di_rng3 {p : Pos} (hm : g.mg "range" = none) (ha : DA g k Λ X W [a, b, c] fs) (hg : Gl X "range" := by rfl) (hs : starEach [a, b, c] X.env = (false, eval a X.env) :: starEach [b, c] X.env := by rfl) (hpl : (backTo pos (starEach [b, c] X.env)).any (·.1) = false := by rfl) :
    DI g k Λ X W tg (.Call (.Name "range" p) [a, b, c] [] pos) (bRng3 fs) := fun ok tk =>
  PI.imp (pi_range3 hg (by rw [ok.mg]; exact hm) (ha ok tk) hs hpl) fun σ H R ⟨ι, ρ, μ, r, l, m, e, p⟩ => goI_A l m e (by cases r with | ok _ _ => trivial | exc _ _ => exact p) fun ds μ1 ι1 H1 us e1 e2 x1 m1 l1 r1 => by
    split at e2
    · split at e2
      · rename_i hj
        cases e2
        obtain ⟨v, u, w, rfl, rv, ru, rw'⟩ := r1.inv3
        cases rv; cases ru; cases rw'
        obtain ⟨h1, h2, h3, h4⟩ := hj
        exact ⟨_, _, _, _, rfl, ⟨h1, h2, h3, by omega⟩, p ι1 H1 _ x1 m1 (itk_up _ _ _)⟩
      · cases e2
    · cases e2
end
end Mi

set_option linter.all false
set_option maxRecDepth 100000
set_option maxHeartbeats 4000000
namespace K10
open PySem Mi L2 Mw
/-! ### what is met -/
def gM (pay : Int) : Int → Rows → Int
  | _, [] => 0
  | left, p :: r => mn left (pay * p.1 / 1000) * p.2 + gM pay (left - mn left (pay * p.1 / 1000)) r
def cR (pay : Int) (ms : Rows) : Rows := ms.map fun p => (pay * p.1 / 1000, p.2)
def rates (pay : Int) (ms : Rows) (own : Int) : List Int := flatR (cR pay ms) ++ List.replicate own.toNat 0
theorem flatR_c (p : Int × Int) (r : Rows) : flatR (p :: r) = List.replicate p.1.toNat p.2 ++ flatR r := rfl
theorem sum_rep (n : Nat) (a : Int) : (List.replicate n a).sum = n * a := by
  induction n with
  | zero => simp
  | succ n ih => rw [List.replicate_succ, List.sum_cons, ih, Int.natCast_add, Int.add_mul]; simp; omega
theorem take_sum {pay : Int} (hp : 0 ≤ pay) : ∀ (ms : Rows) (left : Int) (n : Nat), 0 ≤ left → (∀ p ∈ ms, 0 ≤ p.1) → ((flatR (cR pay ms) ++ List.replicate n 0).take left.toNat).sum = gM pay left ms
  | [], left, n, _, _ => by
    show ((List.replicate n (0 : Int)).take left.toNat).sum = 0
    rw [List.take_replicate, sum_rep, Int.mul_zero]
  | p :: ms, left, n, hl, hm => by
    have hc : 0 ≤ pay * p.1 / 1000 := Int.ediv_nonneg (mul_nn hp (hm p List.mem_cons_self)) (by omega)
    show ((flatR ((pay * p.1 / 1000, p.2) :: cR pay ms) ++ List.replicate n 0).take left.toNat).sum = mn left (pay * p.1 / 1000) * p.2 + gM pay (left - mn left (pay * p.1 / 1000)) ms
    generalize pay * p.1 / 1000 = c at hc
    rw [flatR_c, List.append_assoc, List.take_append, List.sum_append]
    have e1 : (List.replicate c.toNat p.2).take left.toNat = List.replicate (mn left c).toNat p.2 := by
      rw [List.take_replicate]
      congr 1
      rw [mn_e]
      omega
    have e2 : left.toNat - (List.replicate c.toNat p.2).length = (left - mn left c).toNat := by
      rw [List.length_replicate, mn_e]
      omega
    rw [e1, e2, take_sum hp ms _ n (by rw [mn_e]; omega) fun q hq => hm q (List.mem_cons_of_mem _ hq), sum_rep]
    have e3 : (((mn left c).toNat : Nat) : Int) = mn left c := by rw [mn_e]; omega
    rw [e3]
theorem take_mono : ∀ (xs : List Int) (a b : Nat), (∀ x ∈ xs, 0 ≤ x) → a ≤ b → (xs.take a).sum ≤ (xs.take b).sum
  | [], a, b, _, _ => by simp
  | x :: xs, 0, b, h, _ => by
    have : ∀ ys : List Int, (∀ y ∈ ys, 0 ≤ y) → 0 ≤ ys.sum := fun ys => by
      induction ys with
      | nil => intro _; simp
      | cons y ys ih =>
        intro hy
        have := ih fun z hz => hy z (List.mem_cons_of_mem _ hz)
        have := hy y List.mem_cons_self
        rw [List.sum_cons]; omega
    have := this ((x :: xs).take b) fun y hy => h y (List.mem_of_mem_take hy)
    simpa using this
  | x :: xs, a + 1, 0, h, hab => by omega
  | x :: xs, a + 1, b + 1, h, hab => by
    have := take_mono xs a b (fun y hy => h y (List.mem_cons_of_mem _ hy)) (by omega)
    simp only [List.take_succ_cons, List.sum_cons]
    omega
def MsOk (ms : Rows) : Prop := ∀ p ∈ ms, (0 ≤ p.1 ∧ p.1 ≤ 1000) ∧ 0 ≤ p.2 ∧ p.2 ≤ 2000
theorem gM_mono {pay : Int} {ms : Rows} (hp : 0 ≤ pay) (hm : MsOk ms) {a b : Int} (ha : 0 ≤ a) (h : a ≤ b) : gM pay a ms ≤ gM pay b ms := by
  have h0 : ∀ p ∈ ms, 0 ≤ p.1 := fun p q => (hm p q).1.1
  rw [← take_sum hp ms a 0 ha h0, ← take_sum hp ms b 0 (by omega) h0]
  refine take_mono _ _ _ (fun x hx => ?_) (by omega)
  rcases List.mem_append.mp hx with hx | hx
  · unfold flatR at hx
    obtain ⟨q, hq, hr⟩ := List.mem_flatMap.mp hx
    obtain ⟨_, e⟩ := List.mem_replicate.mp hr
    unfold cR at hq
    obtain ⟨p, hpm, rfl⟩ := List.mem_map.mp hq
    rw [e]
    exact (hm p hpm).2.1
  · have := (List.mem_replicate.mp hx).2
    omega
def metV (pay own : Int) (ms : Rows) : Int := gM pay own ms / 1000
theorem metV_mono {pay : Int} {ms : Rows} (hp : 0 ≤ pay) (hm : MsOk ms) {a b : Int} (ha : 0 ≤ a) (h : a ≤ b) : metV pay a ms ≤ metV pay b ms := Int.ediv_le_ediv (by omega) (gM_mono hp hm ha h)
/-! ### money grown -/
def grN (parts each : Int) : Nat → Int → Int
  | 0, x => x
  | n + 1, x => grN parts each n (x + (x * parts / 10000 + each))
theorem grN_mono {parts : Int} (hp : 0 ≤ parts) {e e' : Int} (he : e ≤ e') : ∀ (n : Nat) (x x' : Int), x ≤ x' → grN parts e n x ≤ grN parts e' n x'
  | 0, x, x', h => h
  | n + 1, x, x', h => by
    refine grN_mono hp he n _ _ ?_
    have h1 : x * parts ≤ x' * parts := Int.mul_le_mul_of_nonneg_right h hp
    have h2 : x * parts / 10000 ≤ x' * parts / 10000 := Int.ediv_le_ediv (by omega) h1
    omega
theorem grN_low {parts : Int} (hp : 0 ≤ parts) {e : Int} (he : 0 ≤ e) : ∀ (n : Nat) (x : Int), 0 ≤ x → x ≤ grN parts e n x
  | 0, x, _ => Int.le_refl _
  | n + 1, x, h => by
    have h1 : 0 ≤ x * parts / 10000 := Int.ediv_nonneg (mul_nn h hp) (by omega)
    have := grN_low hp he n (x + (x * parts / 10000 + e)) (by omega)
    show x ≤ grN parts e n (x + (x * parts / 10000 + e))
    omega
theorem grN_each {parts : Int} (hp : 0 ≤ parts) {e : Int} (he : 0 ≤ e) {n : Nat} (hn : 1 ≤ n) {x : Int} (hx : 0 ≤ x) : e ≤ grN parts e n x := by
  cases n with
  | zero => omega
  | succ n =>
    have h1 : 0 ≤ x * parts / 10000 := Int.ediv_nonneg (mul_nn hx hp) (by omega)
    have := grN_low hp he n (x + (x * parts / 10000 + e)) (by omega)
    show e ≤ grN parts e n (x + (x * parts / 10000 + e))
    omega
/-! ### years it lasts -/
def stp (parts e l : Int) : Int := (l - e) + (l - e) * parts / 10000
def cnt (parts e : Int) : Nat → Int → Nat
  | 0, _ => 0
  | n + 1, l => if e ≤ l then 1 + cnt parts e n (stp parts e l) else 0
theorem cnt_le (parts e : Int) : ∀ (n : Nat) (l : Int), cnt parts e n l ≤ n
  | 0, _ => Nat.le_refl _
  | n + 1, l => by
    unfold cnt
    split
    · have := cnt_le parts e n (stp parts e l)
      omega
    · omega
theorem cnt_zero {parts : Int} (hp : 0 ≤ parts) : ∀ (n : Nat) (l : Int), 0 ≤ l → cnt parts 0 n l = n
  | 0, _, _ => rfl
  | n + 1, l, h => by
    unfold cnt
    rw [if_pos h, cnt_zero hp n _ ?_]
    · omega
    · unfold stp
      have : 0 ≤ (l - 0) * parts / 10000 := Int.ediv_nonneg (mul_nn (by omega) hp) (by omega)
      omega
end K10

set_option Elab.async false
set_option linter.all false
set_option maxRecDepth 100000
set_option maxHeartbeats 4000000
namespace K10
open PySem PyProof.Rows L2 Mi LamX GxP RZ
def top (i : Nat) : Stmt := PySem.Challenge.pw_paystack_k10_money_laid_by.main.body.getD i (.Pass ⟨0, 0, 0, 0⟩)
abbrev s_Plan___init__ : Stmt := (clsBody (top 5)).getD 0 (.Pass ⟨0, 0, 0, 0⟩)
abbrev s_Plan_own_part : Stmt := (clsBody (top 5)).getD 1 (.Pass ⟨0, 0, 0, 0⟩)
abbrev s_Plan_met_part : Stmt := (clsBody (top 5)).getD 2 (.Pass ⟨0, 0, 0, 0⟩)
abbrev s_Plan_least_for_all : Stmt := (clsBody (top 5)).getD 3 (.Pass ⟨0, 0, 0, 0⟩)
abbrev s_Plan_owned_share : Stmt := (clsBody (top 5)).getD 4 (.Pass ⟨0, 0, 0, 0⟩)
abbrev s_Pot___init__ : Stmt := (clsBody (top 6)).getD 0 (.Pass ⟨0, 0, 0, 0⟩)
abbrev s_Pot_pay_in : Stmt := (clsBody (top 6)).getD 1 (.Pass ⟨0, 0, 0, 0⟩)
abbrev s_Pot_grow_by : Stmt := (clsBody (top 6)).getD 2 (.Pass ⟨0, 0, 0, 0⟩)
abbrev s_Pot_begin_year : Stmt := (clsBody (top 6)).getD 3 (.Pass ⟨0, 0, 0, 0⟩)
abbrev s_Pot_owned_now : Stmt := (clsBody (top 6)).getD 4 (.Pass ⟨0, 0, 0, 0⟩)
abbrev s_Pot_leave_now : Stmt := (clsBody (top 6)).getD 5 (.Pass ⟨0, 0, 0, 0⟩)
abbrev s_Pot_take_out : Stmt := (clsBody (top 6)).getD 6 (.Pass ⟨0, 0, 0, 0⟩)
abbrev s_grown_money : Stmt := top 7
abbrev s_least_each : Stmt := top 8
abbrev s_paid_for_years : Stmt := top 9
abbrev s_does_last : Stmt := top 10
abbrev s_years_it_lasts : Stmt := top 11
abbrev s__law_dice : Stmt := top 13
abbrev s__law_roll : Stmt := top 14
abbrev s__law_rounds : Stmt := top 15
abbrev s__law_told : Stmt := top 16
abbrev s__law_met : Stmt := top 17
abbrev s__law_grown : Stmt := top 18
abbrev s__law_left : Stmt := top 19
abbrev s__law_plain : Stmt := top 20
abbrev s_law : Stmt := top 21
abbrev N_Plan___init__ : List Str := [("self" : Str), ("part" : Str), ("matches" : Str), ("owned" : Str), ("most" : Str), ("one" : Str), ("met" : Str), ("years" : Str), ("two" : Str)]
theorem sc_Plan___init__ : FnScope N_Plan___init__ ["self", "part", "matches", "owned", "most"] (defScope s_Plan___init__) := ⟨rfl, rfl, rfl, by decide +kernel, rfl, by decide +kernel, by decide +kernel⟩
abbrev N_Plan_own_part : List Str := [("self" : Str), ("pay" : Str), ("part" : Str), ("laid" : Str)]
theorem sc_Plan_own_part : FnScope N_Plan_own_part ["self", "pay", "part", "laid"] (defScope s_Plan_own_part) := ⟨rfl, rfl, rfl, by decide +kernel, rfl, by decide +kernel, by decide +kernel⟩
abbrev N_Plan_met_part : List Str := [("self" : Str), ("pay" : Str), ("own" : Str), ("left" : Str), ("found" : Str), ("part" : Str), ("met" : Str), ("here" : Str)]
theorem sc_Plan_met_part : FnScope N_Plan_met_part ["self", "pay", "own"] (defScope s_Plan_met_part) := ⟨rfl, rfl, rfl, by decide +kernel, rfl, by decide +kernel, by decide +kernel⟩
abbrev N_Plan_least_for_all : List Str := [("self" : Str), ("pay" : Str), ("high" : Str), ("goal" : Str), ("low" : Str), ("middle" : Str)]
theorem sc_Plan_least_for_all : FnScope N_Plan_least_for_all ["self", "pay"] (defScope s_Plan_least_for_all) := ⟨rfl, rfl, rfl, by decide +kernel, rfl, by decide +kernel, by decide +kernel⟩
abbrev N_Plan_owned_share : List Str := [("self" : Str), ("years" : Str), ("least" : Str), ("one" : Str)]
theorem sc_Plan_owned_share : FnScope N_Plan_owned_share ["self", "years"] (defScope s_Plan_owned_share) := ⟨rfl, rfl, rfl, by decide +kernel, rfl, by decide +kernel, by decide +kernel⟩
abbrev N_Pot___init__ : List Str := [("self" : Str), ("plan" : Str)]
theorem sc_Pot___init__ : FnScope N_Pot___init__ ["self", "plan"] (defScope s_Pot___init__) := ⟨rfl, rfl, rfl, by decide +kernel, rfl, by decide +kernel, by decide +kernel⟩
abbrev N_Pot_pay_in : List Str := [("self" : Str), ("pay" : Str), ("part" : Str), ("own" : Str), ("met" : Str)]
theorem sc_Pot_pay_in : FnScope N_Pot_pay_in ["self", "pay", "part"] (defScope s_Pot_pay_in) := ⟨rfl, rfl, rfl, by decide +kernel, rfl, by decide +kernel, by decide +kernel⟩
abbrev N_Pot_grow_by : List Str := [("self" : Str), ("parts" : Str), ("one" : Str), ("two" : Str)]
theorem sc_Pot_grow_by : FnScope N_Pot_grow_by ["self", "parts"] (defScope s_Pot_grow_by) := ⟨rfl, rfl, rfl, by decide +kernel, rfl, by decide +kernel, by decide +kernel⟩
abbrev N_Pot_begin_year : List Str := [("self" : Str)]
theorem sc_Pot_begin_year : FnScope N_Pot_begin_year ["self"] (defScope s_Pot_begin_year) := ⟨rfl, rfl, rfl, by decide +kernel, rfl, by decide +kernel, by decide +kernel⟩
abbrev N_Pot_owned_now : List Str := [("self" : Str)]
theorem sc_Pot_owned_now : FnScope N_Pot_owned_now ["self"] (defScope s_Pot_owned_now) := ⟨rfl, rfl, rfl, by decide +kernel, rfl, by decide +kernel, by decide +kernel⟩
abbrev N_Pot_leave_now : List Str := [("self" : Str), ("found" : Str)]
theorem sc_Pot_leave_now : FnScope N_Pot_leave_now ["self"] (defScope s_Pot_leave_now) := ⟨rfl, rfl, rfl, by decide +kernel, rfl, by decide +kernel, by decide +kernel⟩
abbrev N_Pot_take_out : List Str := [("self" : Str), ("money" : Str)]
theorem sc_Pot_take_out : FnScope N_Pot_take_out ["self", "money"] (defScope s_Pot_take_out) := ⟨rfl, rfl, rfl, by decide +kernel, rfl, by decide +kernel, by decide +kernel⟩
abbrev N_grown_money : List Str := [("start" : Str), ("each" : Str), ("parts" : Str), ("years" : Str), ("found" : Str), ("year" : Str)]
theorem sc_grown_money : FnScope N_grown_money ["start", "each", "parts", "years"] (defScope s_grown_money) := ⟨rfl, rfl, rfl, by decide +kernel, rfl, by decide +kernel, by decide +kernel⟩
abbrev N_least_each : List Str := [("start" : Str), ("parts" : Str), ("years" : Str), ("goal" : Str), ("low" : Str), ("high" : Str), ("middle" : Str)]
theorem sc_least_each : FnScope N_least_each ["start", "parts", "years", "goal"] (defScope s_least_each) := ⟨rfl, rfl, rfl, by decide +kernel, rfl, by decide +kernel, by decide +kernel⟩
abbrev N_does_last : List Str := [("money" : Str), ("each" : Str), ("parts" : Str), ("years" : Str), ("left" : Str), ("year" : Str)]
theorem sc_does_last : FnScope N_does_last ["money", "each", "parts", "years"] (defScope s_does_last) := ⟨rfl, rfl, rfl, by decide +kernel, rfl, by decide +kernel, by decide +kernel⟩
abbrev N_paid_for_years : List Str := [("money" : Str), ("parts" : Str), ("years" : Str), ("low" : Str), ("high" : Str), ("middle" : Str)]
theorem sc_paid_for_years : FnScope N_paid_for_years ["money", "parts", "years"] (defScope s_paid_for_years) := ⟨rfl, rfl, rfl, by decide +kernel, rfl, by decide +kernel, by decide +kernel⟩
abbrev N_years_it_lasts : List Str := [("money" : Str), ("each" : Str), ("parts" : Str), ("left" : Str), ("found" : Str)]
theorem sc_years_it_lasts : FnScope N_years_it_lasts ["money", "each", "parts"] (defScope s_years_it_lasts) := ⟨rfl, rfl, rfl, by decide +kernel, rfl, by decide +kernel, by decide +kernel⟩
abbrev N__law_roll : List Str := [("dice" : Str), ("many" : Str), ("found" : Str)]
theorem sc__law_roll : FnScope N__law_roll ["dice", "many"] (defScope s__law_roll) := ⟨rfl, rfl, rfl, by decide +kernel, rfl, by decide +kernel, by decide +kernel⟩
abbrev N__law_dice : List Str := [("cell" : Str)]
theorem sc__law_dice : FnScope N__law_dice ["cell"] (defScope s__law_dice) := ⟨rfl, rfl, rfl, by decide +kernel, rfl, by decide +kernel, by decide +kernel⟩
abbrev N__law_rounds : List Str := [("script" : Str), ("most" : Str), ("cells" : Str), ("cell" : Str)]
theorem sc__law_rounds : FnScope N__law_rounds ["script", "most"] (defScope s__law_rounds) := ⟨rfl, rfl, rfl, by decide +kernel, rfl, by decide +kernel, by decide +kernel⟩
abbrev N__law_met : List Str := [("matches" : Str), ("pay" : Str), ("own" : Str), ("rates" : Str), ("part" : Str), ("met" : Str)]
theorem sc__law_met : FnScope N__law_met ["matches", "pay", "own"] (defScope s__law_met) := ⟨rfl, rfl, rfl, by decide +kernel, rfl, by decide +kernel, by decide +kernel⟩
abbrev N__law_grown : List Str := [("start" : Str), ("each" : Str), ("parts" : Str), ("years" : Str), ("found" : Str), ("year" : Str)]
theorem sc__law_grown : FnScope N__law_grown ["start", "each", "parts", "years"] (defScope s__law_grown) := ⟨rfl, rfl, rfl, by decide +kernel, rfl, by decide +kernel, by decide +kernel⟩
abbrev N__law_left : List Str := [("money" : Str), ("each" : Str), ("parts" : Str), ("years" : Str), ("left" : Str), ("paid" : Str)]
theorem sc__law_left : FnScope N__law_left ["money", "each", "parts", "years"] (defScope s__law_left) := ⟨rfl, rfl, rfl, by decide +kernel, rfl, by decide +kernel, by decide +kernel⟩
abbrev N__law_plain : List Str := [("plan" : Str), ("pot" : Str), ("told" : Str), ("bad" : Str), ("k" : Str), ("f" : Str)]
theorem sc__law_plain : FnScope N__law_plain [] (defScope s__law_plain) := ⟨rfl, rfl, rfl, by decide +kernel, rfl, by decide +kernel, by decide +kernel⟩
abbrev N_law : List Str := [("script" : Str), ("dice" : Str), ("matches" : Str), ("k" : Str), ("plan" : Str), ("own" : Str), ("mets" : Str), ("step" : Str), ("part" : Str), ("most" : Str), ("owned" : Str), ("pay" : Str), ("mine" : Str), ("laid" : Str), ("pot" : Str), ("told" : Str), ("start" : Str), ("each" : Str), ("parts" : Str), ("years" : Str), ("goal" : Str), ("least" : Str), ("paid" : Str), ("one" : Str), ("sort" : Str), ("money" : Str), ("put" : Str), ("met" : Str), ("flag" : Str), ("two" : Str), ("good" : Str), ("share" : Str)]
theorem sc_law : FnScope N_law ["script"] (defScope s_law) := ⟨rfl, rfl, rfl, by decide +kernel, rfl, by decide +kernel, by decide +kernel⟩
def k_MOST_YEARS : D := (.int 80)
abbrev C_house : List Str := ["Pot"]
abbrev C_laid : List Str := ["Pot"]
abbrev C_matches : List Str := ["Plan"]
abbrev C_most : List Str := ["Plan"]
abbrev C_own : List Str := ["Pot"]
abbrev C_owned : List Str := ["Plan"]
abbrev C_part : List Str := ["Plan"]
abbrev C_plan : List Str := ["Pot"]
abbrev C_years : List Str := ["Pot"]
abbrev told_ret : Str := "PensionError"
abbrev told_en : Str := "PensionError"
def XS : List Str := [("PensionError" : Str)]
structure Facts (g : Gb) : Prop where
  n_abs : g.mg "abs" = none
  n_any : g.mg "any" = none
  n_enumerate : g.mg "enumerate" = none
  n_int : g.mg "int" = none
  n_len : g.mg "len" = none
  n_max : g.mg "max" = none
  n_min : g.mg "min" = none
  n_range : g.mg "range" = none
  n_sum : g.mg "sum" = none
  n_tuple : g.mg "tuple" = none
  n_zip : g.mg "zip" = none
  c_MOST_YEARS : GC g "MOST_YEARS" k_MOST_YEARS
  x_PensionError : EC g "PensionError"
  cl_Plan : Cls g.K (g.cls "Plan")
  cl_Pot : Cls g.K (g.cls "Pot")
  no_Pot_house : NoAttr g.K (g.cls "Pot") "house"
  no_Pot_laid : NoAttr g.K (g.cls "Pot") "laid"
  no_Plan_matches : NoAttr g.K (g.cls "Plan") "matches"
  no_Plan_most : NoAttr g.K (g.cls "Plan") "most"
  no_Pot_own : NoAttr g.K (g.cls "Pot") "own"
  no_Plan_owned : NoAttr g.K (g.cls "Plan") "owned"
  no_Plan_part : NoAttr g.K (g.cls "Plan") "part"
  no_Pot_plan : NoAttr g.K (g.cls "Pot") "plan"
  no_Pot_years : NoAttr g.K (g.cls "Pot") "years"
  f_Plan___init__ : ∃ f c fd, FunC g.K "__init__" "Plan.__init__" s_Plan___init__ f c fd ∧ (g.mg "Plan" = some (.ref (g.cls "Plan")) ∧ Mk g.K (g.cls "Plan") f) ∧ ∃ P, TabB g.base g.mg c P ∧ (P, (("Plan.__init__.<locals>." : Str) ++ "<genexpr>")) ∈ g.T ∧ ∀ p ∈ g.T, p.1 = P → p.2 = (("Plan.__init__.<locals>." : Str) ++ "<genexpr>")
  f_Plan_own_part : ∃ f c fd, FunC g.K "own_part" "Plan.own_part" s_Plan_own_part f c fd ∧ Meth g.K (g.cls "Plan") "own_part" f
  f_Plan_met_part : ∃ f c fd, FunC g.K "met_part" "Plan.met_part" s_Plan_met_part f c fd ∧ Meth g.K (g.cls "Plan") "met_part" f
  f_Plan_least_for_all : ∃ f c fd, FunC g.K "least_for_all" "Plan.least_for_all" s_Plan_least_for_all f c fd ∧ Meth g.K (g.cls "Plan") "least_for_all" f
  f_Plan_owned_share : ∃ f c fd, FunC g.K "owned_share" "Plan.owned_share" s_Plan_owned_share f c fd ∧ Meth g.K (g.cls "Plan") "owned_share" f
  f_Pot___init__ : ∃ f c fd, FunC g.K "__init__" "Pot.__init__" s_Pot___init__ f c fd ∧ (g.mg "Pot" = some (.ref (g.cls "Pot")) ∧ Mk g.K (g.cls "Pot") f)
  f_Pot_pay_in : ∃ f c fd, FunC g.K "pay_in" "Pot.pay_in" s_Pot_pay_in f c fd ∧ Meth g.K (g.cls "Pot") "pay_in" f
  f_Pot_grow_by : ∃ f c fd, FunC g.K "grow_by" "Pot.grow_by" s_Pot_grow_by f c fd ∧ Meth g.K (g.cls "Pot") "grow_by" f
  f_Pot_begin_year : ∃ f c fd, FunC g.K "begin_year" "Pot.begin_year" s_Pot_begin_year f c fd ∧ Meth g.K (g.cls "Pot") "begin_year" f
  f_Pot_owned_now : ∃ f c fd, FunC g.K "owned_now" "Pot.owned_now" s_Pot_owned_now f c fd ∧ Meth g.K (g.cls "Pot") "owned_now" f
  f_Pot_leave_now : ∃ f c fd, FunC g.K "leave_now" "Pot.leave_now" s_Pot_leave_now f c fd ∧ Meth g.K (g.cls "Pot") "leave_now" f
  f_Pot_take_out : ∃ f c fd, FunC g.K "take_out" "Pot.take_out" s_Pot_take_out f c fd ∧ Meth g.K (g.cls "Pot") "take_out" f
  f_grown_money : ∃ f c fd, FunC g.K "grown_money" "grown_money" s_grown_money f c fd ∧ g.mg "grown_money" = some (.ref f)
  f_least_each : ∃ f c fd, FunC g.K "least_each" "least_each" s_least_each f c fd ∧ g.mg "least_each" = some (.ref f)
  f_does_last : ∃ f c fd, FunC g.K "does_last" "does_last" s_does_last f c fd ∧ g.mg "does_last" = some (.ref f)
  f_paid_for_years : ∃ f c fd, FunC g.K "paid_for_years" "paid_for_years" s_paid_for_years f c fd ∧ g.mg "paid_for_years" = some (.ref f)
  f_years_it_lasts : ∃ f c fd, FunC g.K "years_it_lasts" "years_it_lasts" s_years_it_lasts f c fd ∧ g.mg "years_it_lasts" = some (.ref f)
  f__law_roll : ∃ f c fd, FunC g.K "_law_roll" "_law_roll" s__law_roll f c fd ∧ g.mg "_law_roll" = some (.ref f)
  f__law_dice : ∃ f c fd, FunC g.K "_law_dice" "_law_dice" s__law_dice f c fd ∧ g.mg "_law_dice" = some (.ref f)
  f__law_rounds : ∃ f c fd, FunC g.K "_law_rounds" "_law_rounds" s__law_rounds f c fd ∧ g.mg "_law_rounds" = some (.ref f)
  f__law_met : ∃ f c fd, FunC g.K "_law_met" "_law_met" s__law_met f c fd ∧ g.mg "_law_met" = some (.ref f)
  f__law_grown : ∃ f c fd, FunC g.K "_law_grown" "_law_grown" s__law_grown f c fd ∧ g.mg "_law_grown" = some (.ref f)
  f__law_left : ∃ f c fd, FunC g.K "_law_left" "_law_left" s__law_left f c fd ∧ g.mg "_law_left" = some (.ref f)
  f__law_plain : ∃ f c fd, FunC g.K "_law_plain" "_law_plain" s__law_plain f c fd ∧ g.mg "_law_plain" = some (.ref f) ∧ ∃ P, TabB g.base g.mg c P ∧ (P, (("_law_plain.<locals>." : Str) ++ "<lambda>")) ∈ g.T ∧ ∀ p ∈ g.T, p.1 = P → p.2 = (("_law_plain.<locals>." : Str) ++ "<lambda>")
  f_law : ∃ f c fd, FunC g.K "law" "law" s_law f c fd ∧ g.mg "law" = some (.ref f) ∧ ∃ P, TabB g.base g.mg c P ∧ (P, (("law.<locals>." : Str) ++ "<lambda>")) ∈ g.T ∧ ∀ p ∈ g.T, p.1 = P → p.2 = (("law.<locals>." : Str) ++ "<lambda>")
  told : ∃ ga ca fd, ToldF g "_law_told" told_en told_ret "what" s__law_told ga ca fd ["what"] ⟨167, 15, 167, 19⟩ ⟨167, 15, 167, 21⟩ ⟨167, 8, 167, 21⟩ ⟨168, 11, 168, 23⟩ ⟨169, 15, 169, 29⟩ ⟨169, 8, 169, 29⟩ ⟨168, 4, 169, 29⟩ ⟨166, 4, 169, 29⟩ 0
theorem cf_house {g : Gb} (F : Facts g) : ∀ c ∈ C_house, CF g c "house" := cfs_cons ⟨F.cl_Pot, F.no_Pot_house⟩ (cfs_nil)
theorem cf_laid {g : Gb} (F : Facts g) : ∀ c ∈ C_laid, CF g c "laid" := cfs_cons ⟨F.cl_Pot, F.no_Pot_laid⟩ (cfs_nil)
theorem cf_matches {g : Gb} (F : Facts g) : ∀ c ∈ C_matches, CF g c "matches" := cfs_cons ⟨F.cl_Plan, F.no_Plan_matches⟩ (cfs_nil)
theorem cf_most {g : Gb} (F : Facts g) : ∀ c ∈ C_most, CF g c "most" := cfs_cons ⟨F.cl_Plan, F.no_Plan_most⟩ (cfs_nil)
theorem cf_own {g : Gb} (F : Facts g) : ∀ c ∈ C_own, CF g c "own" := cfs_cons ⟨F.cl_Pot, F.no_Pot_own⟩ (cfs_nil)
theorem cf_owned {g : Gb} (F : Facts g) : ∀ c ∈ C_owned, CF g c "owned" := cfs_cons ⟨F.cl_Plan, F.no_Plan_owned⟩ (cfs_nil)
theorem cf_part {g : Gb} (F : Facts g) : ∀ c ∈ C_part, CF g c "part" := cfs_cons ⟨F.cl_Plan, F.no_Plan_part⟩ (cfs_nil)
theorem cf_plan {g : Gb} (F : Facts g) : ∀ c ∈ C_plan, CF g c "plan" := cfs_cons ⟨F.cl_Pot, F.no_Pot_plan⟩ (cfs_nil)
theorem cf_years {g : Gb} (F : Facts g) : ∀ c ∈ C_years, CF g c "years" := cfs_cons ⟨F.cl_Pot, F.no_Pot_years⟩ (cfs_nil)
theorem xs_ok {g : Gb} (F : Facts g) : ∀ c ∈ XS, PySem.W.subIn g.K (.ref (g.cls c)) (.type "StopIteration") = some false := xs_cons (no_stop F.x_PensionError) (xs_nil)
def B_Plan___init__ : Cs := cSeq (cIf (bOrT (bNotT (bTst (bChain dLe dLe (bCon (.int 0)) (bVar 1) (bCon (.int 1000))))) (bTst (bBin dLt (bVar 4) (bCon (.int 0))))) (cRaise "PensionError") (cNop)) (cSeq (cIf (bTru (bGx [5, 6] (bItemsA (bVar 2)) (tgTup [tgName 5, tgName 6]) (bYes) (bOr (bNot (bChain dLe dLe (bCon (.int 0)) (bVar 5) (bCon (.int 1000)))) (bNot (bChain dLe dLe (bCon (.int 0)) (bVar 6) (bCon (.int 2000))))) () stAny (fun _ => some (.bl false)))) (cRaise "PensionError") (cNop)) (cSeq (cIf (bOrT (bTst (bBin dEqA (bFn dLenA (bCons (bVar 3) (bNil))) (bCon (.int 0)))) (bOrT (bTst (bBin dNeA (bBin dIxA (bBin dIxA (bVar 3) (bCon (.int 0))) (bCon (.int 0))) (bCon (.int 0)))) (bTru (bGx [7, 5] (bItemsA (bVar 3)) (tgTup [tgName 7, tgName 5]) (bYes) (bNot (bChain dLe dLe (bCon (.int 0)) (bVar 5) (bCon (.int 1000)))) () stAny (fun _ => some (.bl false)))))) (cRaise "PensionError") (cNop)) (cSeq (cIf (bTru (bGx [5, 8] (bZip (bCons (bVar 3) (bCons (bSl (bVar 3) (bPart (bCon (.int 1))) (bNoPart)) (bNil)))) (tgTup [tgName 5, tgName 8]) (bYes) (bOr (bBin dLe (bBin dIxA (bVar 8) (bCon (.int 0))) (bBin dIxA (bVar 5) (bCon (.int 0)))) (bBin dLt (bBin dIxA (bVar 8) (bCon (.int 1))) (bBin dIxA (bVar 5) (bCon (.int 1))))) () stAny (fun _ => some (.bl false)))) (cRaise "PensionError") (cNop)) (cSeq (cFld C_part "part" (bVar 0) (bVar 1)) (cSeq (cFld C_matches "matches" (bVar 0) (bFn dTuple (bCons (bVar 2) (bNil)))) (cSeq (cFld C_owned "owned" (bVar 0) (bFn dTuple (bCons (bVar 3) (bNil)))) (cFld C_most "most" (bVar 0) (bVar 4))))))))
def M_Plan___init__ : FnS := fnS 9 B_Plan___init__
theorem ok_Plan___init__ {g : Gb} (F : Facts g) : KC g 4 "Plan" 4 M_Plan___init__ := by
  obtain ⟨f, c, fd, h1, h2, PP, TB, hmT, hu⟩ := F.f_Plan___init__
  exact kc_ok (k := 3) (fun _ _ _ _ _ _ => False) rfl h1 h2.1 h2.2 sc_Plan___init__ (h1.binds fun _ _ _ _ _ _ us hl => match us, hl with | [_, _, _, _, _], _ => rfl) fun A outer s H E av =>
    dss_cons (ds_if (dt_w (dw_or (dt_not (dt_chain dop_le dop_le (de_int) (de_var 1) (de_int))) (dw_or1 (dt_cmp dop_lt (de_var 4) (de_int))))) (dss_one (ds_raise F.x_PensionError)) (dss_nil)) (dss_cons (ds_if (dt_tru (de_anyGx (j := 0) [("one", 5), ("met", 6)] (by decide) F.n_any TB hmT hu (by change gxSB N_Plan___init__ (defScope s_Plan___init__) _ _ = true; decide +kernel) (di_sqA (de_var 2)) (fun A s H L code fp pn hr => dg_tup (dgs_cons (dg_name 5) (dgs_cons (dg_name 6) (dgs_nil)))) (fun A s H L code fp pn hr => dts_nil) (fun A s H L code fp pn hr => de_or (de_not (de_chain dop_le dop_le (de_int) (de_var 5) (de_int))) (de_one (de_not (de_chain dop_le dop_le (de_int) (de_var 6) (de_int))))))) (dss_one (ds_raise F.x_PensionError)) (dss_nil)) (dss_cons (ds_if (dt_w (dw_or (dt_cmp dop_eqA (de_bfn boot_len dc_lenA F.n_len (da_cons (de_var 3) (da_nil))) (de_int)) (dw_or (dt_cmp dop_neA (de_ixA (de_ixA (de_var 3) (de_int)) (de_int)) (de_int)) (dw_or1 (dt_tru (de_anyGx (j := 0) [("years", 7), ("one", 5)] (by decide) F.n_any TB hmT hu (by change gxSB N_Plan___init__ (defScope s_Plan___init__) _ _ = true; decide +kernel) (di_sqA (de_var 3)) (fun A s H L code fp pn hr => dg_tup (dgs_cons (dg_name 7) (dgs_cons (dg_name 5) (dgs_nil)))) (fun A s H L code fp pn hr => dts_nil) (fun A s H L code fp pn hr => de_not (de_chain dop_le dop_le (de_int) (de_var 5) (de_int))))))))) (dss_one (ds_raise F.x_PensionError)) (dss_nil)) (dss_cons (ds_if (dt_tru (de_anyGx (j := 0) [("one", 5), ("two", 8)] (by decide) F.n_any TB hmT hu (by change gxSB N_Plan___init__ (defScope s_Plan___init__) _ _ = true; decide +kernel) (di_zip F.n_zip (da_cons (de_var 3) (da_cons (de_sl (de_var 3) (do_some (de_int)) (do_none)) (da_nil)))) (fun A s H L code fp pn hr => dg_tup (dgs_cons (dg_name 5) (dgs_cons (dg_name 8) (dgs_nil)))) (fun A s H L code fp pn hr => dts_nil) (fun A s H L code fp pn hr => de_or (de_cmp dop_le (de_ixA (de_var 8) (de_int)) (de_ixA (de_var 5) (de_int))) (de_one (de_cmp dop_lt (de_ixA (de_var 8) (de_int)) (de_ixA (de_var 5) (de_int))))))) (dss_one (ds_raise F.x_PensionError)) (dss_nil)) (dss_cons (ds_fld (cf_part F) (de_var 0) (de_var 1)) (dss_cons (ds_fld (cf_matches F) (de_var 0) (de_tfn boot_tuple dc_tuple F.n_tuple (da_cons (de_var 2) (da_nil)))) (dss_cons (ds_fld (cf_owned F) (de_var 0) (de_tfn boot_tuple dc_tuple F.n_tuple (da_cons (de_var 3) (da_nil)))) (dss_one (ds_fld (cf_most F) (de_var 0) (de_var 4)))))))))
def B_Plan_own_part : Cs := cSeq (cIf (bTst (bBin dLt (bFn dMin3 (bCons (bVar 1) (bCons (bVar 2) (bCons (bVar 3) (bNil))))) (bCon (.int 0)))) (cRaise "PensionError") (cNop)) (cRet (bFn dMax2 (bCons (bCon (.int 0)) (bCons (bFn dMin2 (bCons (bBin dDiv (bBin dMulA (bVar 1) (bFn dMin2 (bCons (bVar 2) (bCons (bFld C_part "part" (bVar 0)) (bNil))))) (bCon (.int 1000))) (bCons (bBin dSub (bFld C_most "most" (bVar 0)) (bVar 3)) (bNil)))) (bNil)))))
def M_Plan_own_part : FnS := fnS 4 B_Plan_own_part
theorem ok_Plan_own_part {g : Gb} (F : Facts g) : MC g 1 "Plan" "own_part" 3 M_Plan_own_part := by
  obtain ⟨f, c, fd, h1, h2⟩ := F.f_Plan_own_part
  exact mc_ok (k := 0) (fun _ _ _ _ _ _ => False) rfl h1 F.cl_Plan h2 sc_Plan_own_part (h1.binds fun _ _ _ _ _ _ us hl => match us, hl with | [_, _, _, _], _ => rfl) fun A outer s H E av =>
    dss_cons (ds_if (dt_cmp dop_lt (de_bfn boot_min dc_min3 F.n_min (da_cons (de_var 1) (da_cons (de_var 2) (da_cons (de_var 3) (da_nil))))) (de_int)) (dss_one (ds_raise F.x_PensionError)) (dss_nil)) (dss_one (ds_ret (de_bfn boot_max dc_max2 F.n_max (da_cons (de_int) (da_cons (de_bfn boot_min dc_min2 F.n_min (da_cons (de_bin dop_div (de_bin dop_mulA (de_var 1) (de_bfn boot_min dc_min2 F.n_min (da_cons (de_var 2) (da_cons (de_fld (cf_part F) (de_var 0)) (da_nil))))) (de_int)) (da_cons (de_bin dop_sub (de_fld (cf_most F) (de_var 0)) (de_var 3)) (da_nil)))) (da_nil))))))
abbrev T_own_part : List (Str × FnS) := [("Plan", M_Plan_own_part)]
theorem mt_own_part {g : Gb} (F : Facts g) : ∀ c F', (c, F') ∈ T_own_part → MC g 1 c "own_part" 3 F' := mtab_cons (ok_Plan_own_part F) (by decide) (mtab_nil)
def B_Plan_met_part : Cs := cSeq (cIf (bTst (bBin dLt (bFn dMin2 (bCons (bVar 1) (bCons (bVar 2) (bNil)))) (bCon (.int 0)))) (cRaise "PensionError") (cNop)) (cSeq (cPar2 3 4 (bCons (bVar 2) (bCons (bCon (.int 0)) (bNil)))) (cSeq (cFor (bItemsA (bFld C_matches "matches" (bVar 0))) (tgTup [tgName 5, tgName 6]) (cSeq (cSet 7 (bFn dMin2 (bCons (bVar 3) (bCons (bBin dDiv (bBin dMulA (bVar 1) (bVar 5)) (bCon (.int 1000))) (bNil))))) (cSeq (cAug 4 dIAdd (bBin dMulA (bVar 7) (bVar 6))) (cAug 3 dISub (bVar 7))))) (cRet (bBin dDiv (bVar 4) (bCon (.int 1000))))))
def M_Plan_met_part : FnS := fnS 8 B_Plan_met_part
theorem ok_Plan_met_part {g : Gb} (F : Facts g) : MC g 1 "Plan" "met_part" 2 M_Plan_met_part := by
  obtain ⟨f, c, fd, h1, h2⟩ := F.f_Plan_met_part
  exact mc_ok (k := 0) (fun _ _ _ _ _ _ => False) rfl h1 F.cl_Plan h2 sc_Plan_met_part (h1.binds fun _ _ _ _ _ _ us hl => match us, hl with | [_, _, _], _ => rfl) fun A outer s H E av =>
    dss_cons (ds_if (dt_cmp dop_lt (de_bfn boot_min dc_min2 F.n_min (da_cons (de_var 1) (da_cons (de_var 2) (da_nil)))) (de_int)) (dss_one (ds_raise F.x_PensionError)) (dss_nil)) (dss_cons (ds_par2 3 4 (da_cons (de_var 2) (da_cons (de_int) (da_nil)))) (dss_cons (ds_for (vs := [5, 6]) (di_sqA (de_fld (cf_matches F) (de_var 0))) (dg_tup (dgs_cons (dg_name 5) (dgs_cons (dg_name 6) (dgs_nil)))) (dss_cons (ds_set 7 (de_bfn boot_min dc_min2 F.n_min (da_cons (de_var 3) (da_cons (de_bin dop_div (de_bin dop_mulA (de_var 1) (de_var 5)) (de_int)) (da_nil))))) (dss_cons (ds_aug 4 dip_add (de_bin dop_mulA (de_var 7) (de_var 6))) (dss_one (ds_aug 3 dip_sub (de_var 7)))))) (dss_one (ds_ret (de_bin dop_div (de_var 4) (de_int))))))
abbrev T_met_part : List (Str × FnS) := [("Plan", M_Plan_met_part)]
theorem mt_met_part {g : Gb} (F : Facts g) : ∀ c F', (c, F') ∈ T_met_part → MC g 1 c "met_part" 2 F' := mtab_cons (ok_Plan_met_part F) (by decide) (mtab_nil)
def B_Plan_least_for_all : Cs := cSeq (cIf (bTst (bBin dLt (bVar 1) (bCon (.int 0)))) (cRaise "PensionError") (cNop)) (cSeq (cSet 2 (bBin dDiv (bBin dMulA (bVar 1) (bFld C_part "part" (bVar 0))) (bCon (.int 1000)))) (cSeq (cPar2 3 4 (bCons (bMeth T_met_part "met_part" (bVar 0) (bCons (bVar 1) (bCons (bVar 2) (bNil)))) (bCons (bBin dSub (bCon (.int 0)) (bCon (.int 1))) (bNil)))) (cSeq (cWhile 1000 (bTst (bBin dGt (bBin dSub (bVar 2) (bVar 4)) (bCon (.int 1)))) (cSeq (cSet 5 (bBin dDiv (bBin dAdd (bVar 4) (bVar 2)) (bCon (.int 2)))) (cIf (bTst (bBin dGe (bMeth T_met_part "met_part" (bVar 0) (bCons (bVar 1) (bCons (bVar 5) (bNil)))) (bVar 3))) (cSet 2 (bVar 5)) (cSet 4 (bVar 5))))) (cRet (bVar 2)))))
def M_Plan_least_for_all : FnS := fnS 6 B_Plan_least_for_all
theorem ok_Plan_least_for_all {g : Gb} (F : Facts g) : MC g 2 "Plan" "least_for_all" 1 M_Plan_least_for_all := by
  obtain ⟨f, c, fd, h1, h2⟩ := F.f_Plan_least_for_all
  exact mc_ok (k := 1) (fun _ _ _ _ _ _ => False) rfl h1 F.cl_Plan h2 sc_Plan_least_for_all (h1.binds fun _ _ _ _ _ _ us hl => match us, hl with | [_, _], _ => rfl) fun A outer s H E av =>
    dss_cons (ds_if (dt_cmp dop_lt (de_var 1) (de_int)) (dss_one (ds_raise F.x_PensionError)) (dss_nil)) (dss_cons (ds_set 2 (de_bin dop_div (de_bin dop_mulA (de_var 1) (de_fld (cf_part F) (de_var 0))) (de_int))) (dss_cons (ds_par2 3 4 (da_cons (de_meth (by decide) (mt_met_part F) (de_var 0) (da_cons (de_var 1) (da_cons (de_var 2) (da_nil))) (bCons_len (bCons_len bNil_len))) (da_cons (de_bin dop_sub (de_int) (de_int)) (da_nil)))) (dss_cons (ds_while 1000 (dt_cmp dop_gt (de_bin dop_sub (de_var 2) (de_var 4)) (de_int)) (dss_cons (ds_set 5 (de_bin dop_div (de_bin dop_add (de_var 4) (de_var 2)) (de_int))) (dss_one (ds_if (dt_cmp dop_ge (de_meth (by decide) (mt_met_part F) (de_var 0) (da_cons (de_var 1) (da_cons (de_var 5) (da_nil))) (bCons_len (bCons_len bNil_len))) (de_var 3)) (dss_one (ds_set 2 (de_var 5))) (dss_one (ds_set 4 (de_var 5))))))) (dss_one (ds_ret (de_var 2))))))
abbrev T_least_for_all : List (Str × FnS) := [("Plan", M_Plan_least_for_all)]
theorem mt_least_for_all {g : Gb} (F : Facts g) : ∀ c F', (c, F') ∈ T_least_for_all → MC g 2 c "least_for_all" 1 F' := mtab_cons (ok_Plan_least_for_all F) (by decide) (mtab_nil)
def B_Plan_owned_share : Cs := cSeq (cIf (bTst (bBin dLt (bVar 1) (bCon (.int 0)))) (cRaise "PensionError") (cNop)) (cRet (bBin dIxA (bComp [2, 3] (bItemsA (bFld C_owned "owned" (bVar 0))) (tgTup [tgName 2, tgName 3]) (bTst (bBin dLe (bVar 2) (bVar 1))) (bVar 3)) (bNeg (bCon (.int 1)))))
def M_Plan_owned_share : FnS := fnS 4 B_Plan_owned_share
theorem ok_Plan_owned_share {g : Gb} (F : Facts g) : MC g 1 "Plan" "owned_share" 1 M_Plan_owned_share := by
  obtain ⟨f, c, fd, h1, h2⟩ := F.f_Plan_owned_share
  exact mc_ok (k := 0) (fun _ _ _ _ _ _ => False) rfl h1 F.cl_Plan h2 sc_Plan_owned_share (h1.binds fun _ _ _ _ _ _ us hl => match us, hl with | [_, _], _ => rfl) fun A outer s H E av =>
    dss_cons (ds_if (dt_cmp dop_lt (de_var 1) (de_int)) (dss_one (ds_raise F.x_PensionError)) (dss_nil)) (dss_one (ds_ret (de_ixA (de_comp [("least", 2), ("one", 3)] (di_sqA (de_fld (cf_owned F) (de_var 0))) (by change blkC N_Plan_owned_share (defScope s_Plan_owned_share) _ _ = true; decide +kernel) (fun Λ' h1 s H C cl fp => dg_tup (dgs_cons (dg_name 2) (dgs_cons (dg_name 3) (dgs_nil)))) (fun Λ' h1 s H C cl fp => dts_one (dt_cmp dop_le (de_var 2) (de_var 1))) (fun Λ' h1 s H C cl fp => de_var 3)) (de_neg (de_int)))))
abbrev T_owned_share : List (Str × FnS) := [("Plan", M_Plan_owned_share)]
theorem mt_owned_share {g : Gb} (F : Facts g) : ∀ c F', (c, F') ∈ T_owned_share → MC g 1 c "owned_share" 1 F' := mtab_cons (ok_Plan_owned_share F) (by decide) (mtab_nil)
def B_Pot___init__ : Cs := cSeq (cFld C_plan "plan" (bVar 0) (bVar 1)) (cSeq (cFld C_own "own" (bVar 0) (bCon (.int 0))) (cSeq (cFld C_house "house" (bVar 0) (bCon (.int 0))) (cSeq (cFld C_laid "laid" (bVar 0) (bCon (.int 0))) (cFld C_years "years" (bVar 0) (bCon (.int 0))))))
def M_Pot___init__ : FnS := fnS 2 B_Pot___init__
theorem ok_Pot___init__ {g : Gb} (F : Facts g) : KC g 1 "Pot" 1 M_Pot___init__ := by
  obtain ⟨f, c, fd, h1, h2⟩ := F.f_Pot___init__
  exact kc_ok (k := 0) (fun _ _ _ _ _ _ => False) rfl h1 h2.1 h2.2 sc_Pot___init__ (h1.binds fun _ _ _ _ _ _ us hl => match us, hl with | [_, _], _ => rfl) fun A outer s H E av =>
    dss_cons (ds_fld (cf_plan F) (de_var 0) (de_var 1)) (dss_cons (ds_fld (cf_own F) (de_var 0) (de_int)) (dss_cons (ds_fld (cf_house F) (de_var 0) (de_int)) (dss_cons (ds_fld (cf_laid F) (de_var 0) (de_int)) (dss_one (ds_fld (cf_years F) (de_var 0) (de_int))))))
def B_Pot_pay_in : Cs := cSeq (cSet 3 (bMeth T_own_part "own_part" (bFld C_plan "plan" (bVar 0)) (bCons (bVar 1) (bCons (bVar 2) (bCons (bFld C_laid "laid" (bVar 0)) (bNil)))))) (cSeq (cSet 4 (bMeth T_met_part "met_part" (bFld C_plan "plan" (bVar 0)) (bCons (bVar 1) (bCons (bVar 3) (bNil))))) (cSeq (cFldAug C_own "own" (bVar 0) dIAdd (bVar 3)) (cSeq (cFldAug C_laid "laid" (bVar 0) dIAdd (bVar 3)) (cSeq (cFldAug C_house "house" (bVar 0) dIAdd (bVar 4)) (cRet (bTup (bCons (bVar 3) (bCons (bVar 4) (bNil)))))))))
def M_Pot_pay_in : FnS := fnS 5 B_Pot_pay_in
theorem ok_Pot_pay_in {g : Gb} (F : Facts g) : MC g 2 "Pot" "pay_in" 2 M_Pot_pay_in := by
  obtain ⟨f, c, fd, h1, h2⟩ := F.f_Pot_pay_in
  exact mc_ok (k := 1) (fun _ _ _ _ _ _ => False) rfl h1 F.cl_Pot h2 sc_Pot_pay_in (h1.binds fun _ _ _ _ _ _ us hl => match us, hl with | [_, _, _], _ => rfl) fun A outer s H E av =>
    dss_cons (ds_set 3 (de_meth (by decide) (mt_own_part F) (de_fld (cf_plan F) (de_var 0)) (da_cons (de_var 1) (da_cons (de_var 2) (da_cons (de_fld (cf_laid F) (de_var 0)) (da_nil)))) (bCons_len (bCons_len (bCons_len bNil_len))))) (dss_cons (ds_set 4 (de_meth (by decide) (mt_met_part F) (de_fld (cf_plan F) (de_var 0)) (da_cons (de_var 1) (da_cons (de_var 3) (da_nil))) (bCons_len (bCons_len bNil_len)))) (dss_cons (ds_fldaug (cf_own F) dip_add (de_var 0) (de_var 3)) (dss_cons (ds_fldaug (cf_laid F) dip_add (de_var 0) (de_var 3)) (dss_cons (ds_fldaug (cf_house F) dip_add (de_var 0) (de_var 4)) (dss_one (ds_ret (de_tup (da_cons (de_var 3) (da_cons (de_var 4) (da_nil))))))))))
abbrev T_pay_in : List (Str × FnS) := [("Pot", M_Pot_pay_in)]
theorem mt_pay_in {g : Gb} (F : Facts g) : ∀ c F', (c, F') ∈ T_pay_in → MC g 2 c "pay_in" 2 F' := mtab_cons (ok_Pot_pay_in F) (by decide) (mtab_nil)
def B_Pot_grow_by : Cs := cSeq (cIf (bTst (bBin dLt (bVar 1) (bBin dSub (bCon (.int 0)) (bCon (.int 10000))))) (cRaise "PensionError") (cNop)) (cSeq (cPar2 2 3 (bCons (bBin dDiv (bBin dMulA (bFld C_own "own" (bVar 0)) (bVar 1)) (bCon (.int 10000))) (bCons (bBin dDiv (bBin dMulA (bFld C_house "house" (bVar 0)) (bVar 1)) (bCon (.int 10000))) (bNil)))) (cSeq (cFldAug C_own "own" (bVar 0) dIAdd (bVar 2)) (cSeq (cFldAug C_house "house" (bVar 0) dIAdd (bVar 3)) (cRet (bBin dAdd (bVar 2) (bVar 3))))))
def M_Pot_grow_by : FnS := fnS 4 B_Pot_grow_by
theorem ok_Pot_grow_by {g : Gb} (F : Facts g) : MC g 1 "Pot" "grow_by" 1 M_Pot_grow_by := by
  obtain ⟨f, c, fd, h1, h2⟩ := F.f_Pot_grow_by
  exact mc_ok (k := 0) (fun _ _ _ _ _ _ => False) rfl h1 F.cl_Pot h2 sc_Pot_grow_by (h1.binds fun _ _ _ _ _ _ us hl => match us, hl with | [_, _], _ => rfl) fun A outer s H E av =>
    dss_cons (ds_if (dt_cmp dop_lt (de_var 1) (de_bin dop_sub (de_int) (de_int))) (dss_one (ds_raise F.x_PensionError)) (dss_nil)) (dss_cons (ds_par2 2 3 (da_cons (de_bin dop_div (de_bin dop_mulA (de_fld (cf_own F) (de_var 0)) (de_var 1)) (de_int)) (da_cons (de_bin dop_div (de_bin dop_mulA (de_fld (cf_house F) (de_var 0)) (de_var 1)) (de_int)) (da_nil)))) (dss_cons (ds_fldaug (cf_own F) dip_add (de_var 0) (de_var 2)) (dss_cons (ds_fldaug (cf_house F) dip_add (de_var 0) (de_var 3)) (dss_one (ds_ret (de_bin dop_add (de_var 2) (de_var 3)))))))
abbrev T_grow_by : List (Str × FnS) := [("Pot", M_Pot_grow_by)]
theorem mt_grow_by {g : Gb} (F : Facts g) : ∀ c F', (c, F') ∈ T_grow_by → MC g 1 c "grow_by" 1 F' := mtab_cons (ok_Pot_grow_by F) (by decide) (mtab_nil)
def B_Pot_begin_year : Cs := cSeq (cFld C_laid "laid" (bVar 0) (bCon (.int 0))) (cFldAug C_years "years" (bVar 0) dIAdd (bCon (.int 1)))
def M_Pot_begin_year : FnS := fnS 1 B_Pot_begin_year
theorem ok_Pot_begin_year {g : Gb} (F : Facts g) : MC g 1 "Pot" "begin_year" 0 M_Pot_begin_year := by
  obtain ⟨f, c, fd, h1, h2⟩ := F.f_Pot_begin_year
  exact mc_ok (k := 0) (fun _ _ _ _ _ _ => False) rfl h1 F.cl_Pot h2 sc_Pot_begin_year (h1.binds fun _ _ _ _ _ _ us hl => match us, hl with | [_], _ => rfl) fun A outer s H E av =>
    dss_cons (ds_fld (cf_laid F) (de_var 0) (de_int)) (dss_one (ds_fldaug (cf_years F) dip_add (de_var 0) (de_int)))
abbrev T_begin_year : List (Str × FnS) := [("Pot", M_Pot_begin_year)]
theorem mt_begin_year {g : Gb} (F : Facts g) : ∀ c F', (c, F') ∈ T_begin_year → MC g 1 c "begin_year" 0 F' := mtab_cons (ok_Pot_begin_year F) (by decide) (mtab_nil)
def B_Pot_owned_now : Cs := cRet (bBin dAdd (bFld C_own "own" (bVar 0)) (bBin dDiv (bBin dMulA (bFld C_house "house" (bVar 0)) (bMeth T_owned_share "owned_share" (bFld C_plan "plan" (bVar 0)) (bCons (bFld C_years "years" (bVar 0)) (bNil)))) (bCon (.int 1000))))
def M_Pot_owned_now : FnS := fnS 1 B_Pot_owned_now
theorem ok_Pot_owned_now {g : Gb} (F : Facts g) : MC g 2 "Pot" "owned_now" 0 M_Pot_owned_now := by
  obtain ⟨f, c, fd, h1, h2⟩ := F.f_Pot_owned_now
  exact mc_ok (k := 1) (fun _ _ _ _ _ _ => False) rfl h1 F.cl_Pot h2 sc_Pot_owned_now (h1.binds fun _ _ _ _ _ _ us hl => match us, hl with | [_], _ => rfl) fun A outer s H E av =>
    dss_one (ds_ret (de_bin dop_add (de_fld (cf_own F) (de_var 0)) (de_bin dop_div (de_bin dop_mulA (de_fld (cf_house F) (de_var 0)) (de_meth (by decide) (mt_owned_share F) (de_fld (cf_plan F) (de_var 0)) (da_cons (de_fld (cf_years F) (de_var 0)) (da_nil)) (bCons_len bNil_len))) (de_int))))
abbrev T_owned_now : List (Str × FnS) := [("Pot", M_Pot_owned_now)]
theorem mt_owned_now {g : Gb} (F : Facts g) : ∀ c F', (c, F') ∈ T_owned_now → MC g 2 c "owned_now" 0 F' := mtab_cons (ok_Pot_owned_now F) (by decide) (mtab_nil)
def B_Pot_leave_now : Cs := cSeq (cSet 1 (bTup (bCons (bMeth T_owned_now "owned_now" (bVar 0) bNil) (bCons (bBin dSub (bBin dAdd (bFld C_own "own" (bVar 0)) (bFld C_house "house" (bVar 0))) (bMeth T_owned_now "owned_now" (bVar 0) bNil)) (bNil))))) (cSeq (cFld C_own "own" (bVar 0) (bCon (.int 0))) (cSeq (cFld C_house "house" (bVar 0) (bCon (.int 0))) (cRet (bVar 1))))
def M_Pot_leave_now : FnS := fnS 2 B_Pot_leave_now
theorem ok_Pot_leave_now {g : Gb} (F : Facts g) : MC g 3 "Pot" "leave_now" 0 M_Pot_leave_now := by
  obtain ⟨f, c, fd, h1, h2⟩ := F.f_Pot_leave_now
  exact mc_ok (k := 2) (fun _ _ _ _ _ _ => False) rfl h1 F.cl_Pot h2 sc_Pot_leave_now (h1.binds fun _ _ _ _ _ _ us hl => match us, hl with | [_], _ => rfl) fun A outer s H E av =>
    dss_cons (ds_set 1 (de_tup (da_cons (de_meth0 (by decide) (mt_owned_now F) (de_var 0)) (da_cons (de_bin dop_sub (de_bin dop_add (de_fld (cf_own F) (de_var 0)) (de_fld (cf_house F) (de_var 0))) (de_meth0 (by decide) (mt_owned_now F) (de_var 0))) (da_nil))))) (dss_cons (ds_fld (cf_own F) (de_var 0) (de_int)) (dss_cons (ds_fld (cf_house F) (de_var 0) (de_int)) (dss_one (ds_ret (de_var 1)))))
abbrev T_leave_now : List (Str × FnS) := [("Pot", M_Pot_leave_now)]
theorem mt_leave_now {g : Gb} (F : Facts g) : ∀ c F', (c, F') ∈ T_leave_now → MC g 3 c "leave_now" 0 F' := mtab_cons (ok_Pot_leave_now F) (by decide) (mtab_nil)
def B_Pot_take_out : Cs := cSeq (cIf (bNotT (bTst (bChain dLe dLe (bCon (.int 1)) (bVar 1) (bFld C_own "own" (bVar 0))))) (cRaise "PensionError") (cNop)) (cFldAug C_own "own" (bVar 0) dISub (bVar 1))
def M_Pot_take_out : FnS := fnS 2 B_Pot_take_out
theorem ok_Pot_take_out {g : Gb} (F : Facts g) : MC g 1 "Pot" "take_out" 1 M_Pot_take_out := by
  obtain ⟨f, c, fd, h1, h2⟩ := F.f_Pot_take_out
  exact mc_ok (k := 0) (fun _ _ _ _ _ _ => False) rfl h1 F.cl_Pot h2 sc_Pot_take_out (h1.binds fun _ _ _ _ _ _ us hl => match us, hl with | [_, _], _ => rfl) fun A outer s H E av =>
    dss_cons (ds_if (dt_not (dt_chain dop_le dop_le (de_int) (de_var 1) (de_fld (cf_own F) (de_var 0)))) (dss_one (ds_raise F.x_PensionError)) (dss_nil)) (dss_one (ds_fldaug (cf_own F) dip_sub (de_var 0) (de_var 1)))
abbrev T_take_out : List (Str × FnS) := [("Pot", M_Pot_take_out)]
theorem mt_take_out {g : Gb} (F : Facts g) : ∀ c F', (c, F') ∈ T_take_out → MC g 1 c "take_out" 1 F' := mtab_cons (ok_Pot_take_out F) (by decide) (mtab_nil)
def B_grown_money : Cs := cSeq (cIf (bOrT (bTst (bBin dLt (bFn dMin4 (bCons (bVar 0) (bCons (bVar 1) (bCons (bVar 2) (bCons (bVar 3) (bNil)))))) (bCon (.int 0)))) (bTst (bBin dGt (bVar 3) (bCon k_MOST_YEARS)))) (cRaise "PensionError") (cNop)) (cSeq (cSet 4 (bVar 0)) (cSeq (cFor (bRng1 (bCons (bVar 3) (bNil))) (tgName 5) (cAug 4 dIAdd (bBin dAdd (bBin dDiv (bBin dMulA (bVar 4) (bVar 2)) (bCon (.int 10000))) (bVar 1)))) (cRet (bVar 4))))
def M_grown_money : FnS := fnS 6 B_grown_money
theorem ok_grown_money {g : Gb} (F : Facts g) : Fn g 1 "grown_money" 4 M_grown_money := by
  obtain ⟨f, c, fd, h1, h2⟩ := F.f_grown_money
  exact fn_okP (k := 0) (fun _ _ _ _ _ _ => False) h1 h2 sc_grown_money (h1.binds fun _ _ _ _ _ _ us hl => match us, hl with | [_, _, _, _], _ => rfl) fun A outer s H E av =>
    dss_cons (ds_if (dt_w (dw_or (dt_cmp dop_lt (de_bfn boot_min dc_min4 F.n_min (da_cons (de_var 0) (da_cons (de_var 1) (da_cons (de_var 2) (da_cons (de_var 3) (da_nil)))))) (de_int)) (dw_or1 (dt_cmp dop_gt (de_var 3) (de_glob F.c_MOST_YEARS))))) (dss_one (ds_raise F.x_PensionError)) (dss_nil)) (dss_cons (ds_set 4 (de_var 0)) (dss_cons (ds_for (vs := [5]) (di_rng1 F.n_range (da_cons (de_var 3) (da_nil))) (dg_name 5) (dss_one (ds_aug 4 dip_add (de_bin dop_add (de_bin dop_div (de_bin dop_mulA (de_var 4) (de_var 2)) (de_int)) (de_var 1))))) (dss_one (ds_ret (de_var 4)))))
def B_least_each : Cs := cSeq (cIf (bOrT (bTst (bBin dLt (bVar 2) (bCon (.int 1)))) (bTst (bBin dLt (bVar 3) (bCon (.int 0))))) (cRaise "PensionError") (cNop)) (cSeq (cPar2 4 5 (bCons (bBin dSub (bCon (.int 0)) (bCon (.int 1))) (bCons (bFn dMax2 (bCons (bCon (.int 1)) (bCons (bVar 3) (bNil)))) (bNil)))) (cSeq (cWhile 1000 (bTst (bBin dGt (bBin dSub (bVar 5) (bVar 4)) (bCon (.int 1)))) (cSeq (cSet 6 (bBin dDiv (bBin dAdd (bVar 4) (bVar 5)) (bCon (.int 2)))) (cIf (bTst (bBin dGe (bCallP M_grown_money (bCons (bVar 0) (bCons (bVar 6) (bCons (bVar 1) (bCons (bVar 2) (bNil)))))) (bVar 3))) (cSet 5 (bVar 6)) (cSet 4 (bVar 6))))) (cRet (bVar 5))))
def M_least_each : FnS := fnS 7 B_least_each
theorem ok_least_each {g : Gb} (F : Facts g) : Fn g 2 "least_each" 4 M_least_each := by
  obtain ⟨f, c, fd, h1, h2⟩ := F.f_least_each
  exact fn_okP (k := 1) (fun _ _ _ _ _ _ => False) h1 h2 sc_least_each (h1.binds fun _ _ _ _ _ _ us hl => match us, hl with | [_, _, _, _], _ => rfl) fun A outer s H E av =>
    dss_cons (ds_if (dt_w (dw_or (dt_cmp dop_lt (de_var 2) (de_int)) (dw_or1 (dt_cmp dop_lt (de_var 3) (de_int))))) (dss_one (ds_raise F.x_PensionError)) (dss_nil)) (dss_cons (ds_par2 4 5 (da_cons (de_bin dop_sub (de_int) (de_int)) (da_cons (de_bfn boot_max dc_max2 F.n_max (da_cons (de_int) (da_cons (de_var 3) (da_nil)))) (da_nil)))) (dss_cons (ds_while 1000 (dt_cmp dop_gt (de_bin dop_sub (de_var 5) (de_var 4)) (de_int)) (dss_cons (ds_set 6 (de_bin dop_div (de_bin dop_add (de_var 4) (de_var 5)) (de_int))) (dss_one (ds_if (dt_cmp dop_ge (de_callP (ok_grown_money F) (by decide) (ha := da_cons (de_var 0) (da_cons (de_var 6) (da_cons (de_var 1) (da_cons (de_var 2) (da_nil))))) (hlen := (bCons_len (bCons_len (bCons_len (bCons_len bNil_len)))))) (de_var 3)) (dss_one (ds_set 5 (de_var 6))) (dss_one (ds_set 4 (de_var 6))))))) (dss_one (ds_ret (de_var 5)))))
def B_does_last : Cs := cSeq (cSet 4 (bVar 0)) (cSeq (cFor (bRng1 (bCons (bVar 3) (bNil))) (tgName 5) (cSeq (cIf (bTst (bBin dLt (bVar 4) (bVar 1))) (cRet (bCon (.bl false))) (cNop)) (cSeq (cAug 4 dISub (bVar 1)) (cAug 4 dIAdd (bBin dDiv (bBin dMulA (bVar 4) (bVar 2)) (bCon (.int 10000))))))) (cRet (bCon (.bl true))))
def M_does_last : FnS := fnS 6 B_does_last
theorem ok_does_last {g : Gb} (F : Facts g) : Fn g 1 "does_last" 4 M_does_last := by
  obtain ⟨f, c, fd, h1, h2⟩ := F.f_does_last
  exact fn_okP (k := 0) (fun _ _ _ _ _ _ => False) h1 h2 sc_does_last (h1.binds fun _ _ _ _ _ _ us hl => match us, hl with | [_, _, _, _], _ => rfl) fun A outer s H E av =>
    dss_cons (ds_set 4 (de_var 0)) (dss_cons (ds_for (vs := [5]) (di_rng1 F.n_range (da_cons (de_var 3) (da_nil))) (dg_name 5) (dss_cons (ds_if (dt_cmp dop_lt (de_var 4) (de_var 1)) (dss_one (ds_ret (de_bl))) (dss_nil)) (dss_cons (ds_aug 4 dip_sub (de_var 1)) (dss_one (ds_aug 4 dip_add (de_bin dop_div (de_bin dop_mulA (de_var 4) (de_var 2)) (de_int))))))) (dss_one (ds_ret (de_bl))))
def B_paid_for_years : Cs := cSeq (cIf (bOrT (bNotT (bTst (bChain dLe dLe (bCon (.int 1)) (bVar 2) (bCon k_MOST_YEARS)))) (bTst (bBin dLt (bFn dMin2 (bCons (bVar 0) (bCons (bVar 1) (bNil)))) (bCon (.int 0))))) (cRaise "PensionError") (cNop)) (cSeq (cPar2 3 4 (bCons (bCon (.int 0)) (bCons (bBin dAdd (bVar 0) (bCon (.int 1))) (bNil)))) (cSeq (cWhile 1000 (bTst (bBin dGt (bBin dSub (bVar 4) (bVar 3)) (bCon (.int 1)))) (cSeq (cSet 5 (bBin dDiv (bBin dAdd (bVar 3) (bVar 4)) (bCon (.int 2)))) (cIf (bTru (bCallP M_does_last (bCons (bVar 0) (bCons (bVar 5) (bCons (bVar 1) (bCons (bVar 2) (bNil))))))) (cSet 3 (bVar 5)) (cSet 4 (bVar 5))))) (cRet (bVar 3))))
def M_paid_for_years : FnS := fnS 6 B_paid_for_years
theorem ok_paid_for_years {g : Gb} (F : Facts g) : Fn g 2 "paid_for_years" 3 M_paid_for_years := by
  obtain ⟨f, c, fd, h1, h2⟩ := F.f_paid_for_years
  exact fn_okP (k := 1) (fun _ _ _ _ _ _ => False) h1 h2 sc_paid_for_years (h1.binds fun _ _ _ _ _ _ us hl => match us, hl with | [_, _, _], _ => rfl) fun A outer s H E av =>
    dss_cons (ds_if (dt_w (dw_or (dt_not (dt_chain dop_le dop_le (de_int) (de_var 2) (de_glob F.c_MOST_YEARS))) (dw_or1 (dt_cmp dop_lt (de_bfn boot_min dc_min2 F.n_min (da_cons (de_var 0) (da_cons (de_var 1) (da_nil)))) (de_int))))) (dss_one (ds_raise F.x_PensionError)) (dss_nil)) (dss_cons (ds_par2 3 4 (da_cons (de_int) (da_cons (de_bin dop_add (de_var 0) (de_int)) (da_nil)))) (dss_cons (ds_while 1000 (dt_cmp dop_gt (de_bin dop_sub (de_var 4) (de_var 3)) (de_int)) (dss_cons (ds_set 5 (de_bin dop_div (de_bin dop_add (de_var 3) (de_var 4)) (de_int))) (dss_one (ds_if (dt_tru (de_callP (ok_does_last F) (by decide) (ha := da_cons (de_var 0) (da_cons (de_var 5) (da_cons (de_var 1) (da_cons (de_var 2) (da_nil))))) (hlen := (bCons_len (bCons_len (bCons_len (bCons_len bNil_len))))))) (dss_one (ds_set 3 (de_var 5))) (dss_one (ds_set 4 (de_var 5))))))) (dss_one (ds_ret (de_var 3)))))
def B_years_it_lasts : Cs := cSeq (cIf (bOrT (bTst (bBin dLt (bVar 1) (bCon (.int 1)))) (bTst (bBin dLt (bFn dMin2 (bCons (bVar 0) (bCons (bVar 2) (bNil)))) (bCon (.int 0))))) (cRaise "PensionError") (cNop)) (cSeq (cPar2 3 4 (bCons (bVar 0) (bCons (bCon (.int 0)) (bNil)))) (cSeq (cWhile 1000 (bAndT (bTst (bBin dLt (bVar 4) (bCon k_MOST_YEARS))) (bTst (bBin dGe (bVar 3) (bVar 1)))) (cSeq (cAug 3 dISub (bVar 1)) (cSeq (cAug 3 dIAdd (bBin dDiv (bBin dMulA (bVar 3) (bVar 2)) (bCon (.int 10000)))) (cAug 4 dIAdd (bCon (.int 1)))))) (cRet (bVar 4))))
def M_years_it_lasts : FnS := fnS 5 B_years_it_lasts
theorem ok_years_it_lasts {g : Gb} (F : Facts g) : Fn g 1 "years_it_lasts" 3 M_years_it_lasts := by
  obtain ⟨f, c, fd, h1, h2⟩ := F.f_years_it_lasts
  exact fn_okP (k := 0) (fun _ _ _ _ _ _ => False) h1 h2 sc_years_it_lasts (h1.binds fun _ _ _ _ _ _ us hl => match us, hl with | [_, _, _], _ => rfl) fun A outer s H E av =>
    dss_cons (ds_if (dt_w (dw_or (dt_cmp dop_lt (de_var 1) (de_int)) (dw_or1 (dt_cmp dop_lt (de_bfn boot_min dc_min2 F.n_min (da_cons (de_var 0) (da_cons (de_var 2) (da_nil)))) (de_int))))) (dss_one (ds_raise F.x_PensionError)) (dss_nil)) (dss_cons (ds_par2 3 4 (da_cons (de_var 0) (da_cons (de_int) (da_nil)))) (dss_cons (ds_while 1000 (dt_w (dw_and (dt_cmp dop_lt (de_var 4) (de_glob F.c_MOST_YEARS)) (dw_and1 (dt_cmp dop_ge (de_var 3) (de_var 1))))) (dss_cons (ds_aug 3 dip_sub (de_var 1)) (dss_cons (ds_aug 3 dip_add (de_bin dop_div (de_bin dop_mulA (de_var 3) (de_var 2)) (de_int))) (dss_one (ds_aug 4 dip_add (de_int)))))) (dss_one (ds_ret (de_var 4)))))
def B__law_roll : Cs := cSeq (cIf (bOrT (bTst (bBin dEqA (bBin dIxA (bVar 0) (bCon (.int 2))) (bCon (.int 2)))) (bAndT (bTst (bBin dEqA (bBin dIxA (bVar 0) (bCon (.int 2))) (bCon (.int 1)))) (bTst (bBin dGt (bBin dIxA (bVar 0) (bCon (.int 0))) (bCon (.int 0)))))) (cSeq (cSet 2 (bBin dMod (bFn dInt (bCons (bBin dIxA (bVar 0) (bCon (.int 0))) (bNil))) (bVar 1))) (cSeq (cAsg (bBin dDiv (bBin dIxA (bVar 0) (bCon (.int 0))) (bVar 1)) (tgSubA (bVar 0) (bCon (.int 0)))) (cRet (bVar 2)))) (cNop)) (cSeq (cAsg (bCon (.int 0)) (tgSubA (bVar 0) (bCon (.int 2)))) (cSeq (cIf (bTst (bBin dGt (bVar 1) (bCon (.int 100000000)))) (cStuck) (cNop)) (cSeq (cAsg (bBin dMod (bFn dInt (bCons (bBin dAdd (bBin dAdd (bBin dMulA (bBin dIxA (bVar 0) (bCon (.int 0))) (bCon (.int 48271))) (bBin dMulA (bBin dIxA (bVar 0) (bCon (.int 1))) (bCon (.int 69621)))) (bCon (.int 11))) (bNil))) (bCon (.int 2147483647))) (tgSubA (bVar 0) (bCon (.int 0)))) (cSeq (cAsg (bBin dAdd (bBin dIxA (bVar 0) (bCon (.int 1))) (bCon (.int 1))) (tgSubA (bVar 0) (bCon (.int 1)))) (cRet (bBin dMod (bFn dInt (bCons (bBin dDiv (bBin dIxA (bVar 0) (bCon (.int 0))) (bCon (.int 7))) (bNil))) (bVar 1)))))))
def M__law_roll : FnS := fnS 3 B__law_roll
theorem ok__law_roll {g : Gb} (F : Facts g) : Fn g 1 "_law_roll" 2 M__law_roll := by
  obtain ⟨f, c, fd, h1, h2⟩ := F.f__law_roll
  exact fn_okP (k := 0) (fun _ _ _ _ _ _ => False) h1 h2 sc__law_roll (h1.binds fun _ _ _ _ _ _ us hl => match us, hl with | [_, _], _ => rfl) fun A outer s H E av =>
    dss_cons (ds_if (dt_w (dw_or (dt_cmp dop_eqA (de_ixA (de_var 0) (de_int)) (de_int)) (dw_or1 (dt_w (dw_and (dt_cmp dop_eqA (de_ixA (de_var 0) (de_int)) (de_int)) (dw_and1 (dt_cmp dop_gt (de_ixA (de_var 0) (de_int)) (de_int)))))))) (dss_cons (ds_set 2 (de_bin dop_mod (de_tfn boot_int dc_int F.n_int (da_cons (de_ixA (de_var 0) (de_int)) (da_nil))) (de_var 1))) (dss_cons (ds_asg (vs := []) (de_bin dop_div (de_ixA (de_var 0) (de_int)) (de_var 1)) (dg_subA (de_var 0) (de_int) (by intro _; rfl))) (dss_one (ds_ret (de_var 2))))) (dss_nil)) (dss_cons (ds_asg (vs := []) (de_int) (dg_subA (de_var 0) (de_int) (by intro _; rfl))) (dss_cons (ds_if (dt_cmp dop_gt (de_var 1) (de_int)) (dss_one (ds_stuck)) (dss_nil)) (dss_cons (ds_asg (vs := []) (de_bin dop_mod (de_tfn boot_int dc_int F.n_int (da_cons (de_bin dop_add (de_bin dop_add (de_bin dop_mulA (de_ixA (de_var 0) (de_int)) (de_int)) (de_bin dop_mulA (de_ixA (de_var 0) (de_int)) (de_int))) (de_int)) (da_nil))) (de_int)) (dg_subA (de_var 0) (de_int) (by intro _; rfl))) (dss_cons (ds_asg (vs := []) (de_bin dop_add (de_ixA (de_var 0) (de_int)) (de_int)) (dg_subA (de_var 0) (de_int) (by intro _; rfl))) (dss_one (ds_ret (de_bin dop_mod (de_tfn boot_int dc_int F.n_int (da_cons (de_bin dop_div (de_ixA (de_var 0) (de_int)) (de_int)) (da_nil))) (de_var 1))))))))
def B__law_dice : Cs := cSeq (cIf (bTst (bChain dLt dLt (bBin dSub (bCon (.int 0)) (bCon (.int 10))) (bVar 0) (bCon (.int 10)))) (cRet (bLstM (bCons (bFn dAbs (bCons (bVar 0) (bNil))) (bCons (bCon (.int 0)) (bCons (bCon (.int 2)) (bNil)))))) (cNop)) (cRet (bLstM (bCons (bVar 0) (bCons (bBin dAdd (bCon (.int 1)) (bBin dMod (bFn dInt (bCons (bVar 0) (bNil))) (bCon (.int 1009)))) (bCons (bFn dInt (bCons (bBin dGe (bVar 0) (bBin dPow (bCon (.int 10)) (bCon (.int 18)))) (bNil))) (bNil))))))
def M__law_dice : FnS := fnS 1 B__law_dice
theorem ok__law_dice {g : Gb} (F : Facts g) : Fn g 1 "_law_dice" 1 M__law_dice := by
  obtain ⟨f, c, fd, h1, h2⟩ := F.f__law_dice
  exact fn_okP (k := 0) (fun _ _ _ _ _ _ => False) h1 h2 sc__law_dice (h1.binds fun _ _ _ _ _ _ us hl => match us, hl with | [_], _ => rfl) fun A outer s H E av =>
    dss_cons (ds_if (dt_chain dop_lt dop_lt (de_bin dop_sub (de_int) (de_int)) (de_var 0) (de_int)) (dss_one (ds_ret (de_lstM (da_cons (de_bfn boot_abs dc_abs F.n_abs (da_cons (de_var 0) (da_nil))) (da_cons (de_int) (da_cons (de_int) (da_nil))))))) (dss_nil)) (dss_one (ds_ret (de_lstM (da_cons (de_var 0) (da_cons (de_bin dop_add (de_int) (de_bin dop_mod (de_tfn boot_int dc_int F.n_int (da_cons (de_var 0) (da_nil))) (de_int))) (da_cons (de_tfn boot_int dc_int F.n_int (da_cons (de_cmp dop_ge (de_var 0) (de_bin dop_pow (de_int) (de_int))) (da_nil))) (da_nil)))))))
def B__law_rounds : Cs := cSeq (cSet 2 (bSl (bVar 0) (bNoPart) (bPart (bVar 1)))) (cSeq (cIf (bTst (bBin dEqA (bVar 2) (bLst (bNil)))) (cSet 2 (bLst (bCons (bCon (.int 0)) (bNil)))) (cNop)) (cRet (bComp [3] (bItemsA (bVar 2)) (tgName 3) (bYes) (bCallM M__law_dice (bCons (bVar 3) (bNil))))))
def M__law_rounds : FnS := fnS 4 B__law_rounds
theorem ok__law_rounds {g : Gb} (F : Facts g) : Fn g 2 "_law_rounds" 2 M__law_rounds := by
  obtain ⟨f, c, fd, h1, h2⟩ := F.f__law_rounds
  exact fn_okP (k := 1) (fun _ _ _ _ _ _ => False) h1 h2 sc__law_rounds (h1.binds fun _ _ _ _ _ _ us hl => match us, hl with | [_, _], _ => rfl) fun A outer s H E av =>
    dss_cons (ds_set 2 (de_sl (de_var 0) (do_none) (do_some (de_var 1)))) (dss_cons (ds_if (dt_cmp dop_eqA (de_var 2) (de_lst (da_nil))) (dss_one (ds_set 2 (de_lst (da_cons (de_int) (da_nil))))) (dss_nil)) (dss_one (ds_ret (de_comp [("cell", 3)] (di_sqA (de_var 2)) (by change blkC N__law_rounds (defScope s__law_rounds) _ _ = true; decide +kernel) (fun Λ' h2 s H C cl fp => dg_name 3) (fun Λ' h2 s H C cl fp => dts_nil) (fun Λ' h2 s H C cl fp => de_callM (ok__law_dice F) (by decide) (ha := da_cons (de_var 3) (da_nil)) (hlen := (bCons_len bNil_len)))))))
def B__law_met : Cs := cSeq (cSet 3 (bBin dAdd (bFn dSum2 (bCons (bComp [4, 5] (bItemsA (bVar 0)) (tgTup [tgName 4, tgName 5]) (bYes) (bBin dMulA (bLst (bCons (bVar 5) (bNil))) (bBin dDiv (bBin dMulA (bVar 1) (bVar 4)) (bCon (.int 1000))))) (bCons (bLst (bNil)) (bNil)))) (bBin dMulA (bLst (bCons (bCon (.int 0)) (bNil))) (bVar 2)))) (cRet (bBin dDiv (bFn dSum (bCons (bSl (bVar 3) (bNoPart) (bPart (bVar 2))) (bNil))) (bCon (.int 1000))))
def M__law_met : FnS := fnS 6 B__law_met
theorem ok__law_met {g : Gb} (F : Facts g) : Fn g 1 "_law_met" 3 M__law_met := by
  obtain ⟨f, c, fd, h1, h2⟩ := F.f__law_met
  exact fn_okP (k := 0) (fun _ _ _ _ _ _ => False) h1 h2 sc__law_met (h1.binds fun _ _ _ _ _ _ us hl => match us, hl with | [_, _, _], _ => rfl) fun A outer s H E av =>
    dss_cons (ds_set 3 (de_bin dop_add (de_bfn boot_sum dc_sum2 F.n_sum (da_cons (de_comp [("part", 4), ("met", 5)] (di_sqA (de_var 0)) (by change blkC N__law_met (defScope s__law_met) _ _ = true; decide +kernel) (fun Λ' h3 s H C cl fp => dg_tup (dgs_cons (dg_name 4) (dgs_cons (dg_name 5) (dgs_nil)))) (fun Λ' h3 s H C cl fp => dts_nil) (fun Λ' h3 s H C cl fp => de_bin dop_mulA (de_lst (da_cons (de_var 5) (da_nil))) (de_bin dop_div (de_bin dop_mulA (de_var 1) (de_var 4)) (de_int)))) (da_cons (de_lst (da_nil)) (da_nil)))) (de_bin dop_mulA (de_lst (da_cons (de_int) (da_nil))) (de_var 2)))) (dss_one (ds_ret (de_bin dop_div (de_bfn boot_sum dc_sum F.n_sum (da_cons (de_sl (de_var 3) (do_none) (do_some (de_var 2))) (da_nil))) (de_int))))
def B__law_grown : Cs := cSeq (cSet 4 (bVar 0)) (cSeq (cFor (bRng1 (bCons (bVar 3) (bNil))) (tgName 5) (cSet 4 (bBin dAdd (bBin dAdd (bVar 4) (bBin dDiv (bBin dMulA (bVar 4) (bVar 2)) (bCon (.int 10000)))) (bVar 1)))) (cRet (bVar 4)))
def M__law_grown : FnS := fnS 6 B__law_grown
theorem ok__law_grown {g : Gb} (F : Facts g) : Fn g 1 "_law_grown" 4 M__law_grown := by
  obtain ⟨f, c, fd, h1, h2⟩ := F.f__law_grown
  exact fn_okP (k := 0) (fun _ _ _ _ _ _ => False) h1 h2 sc__law_grown (h1.binds fun _ _ _ _ _ _ us hl => match us, hl with | [_, _, _, _], _ => rfl) fun A outer s H E av =>
    dss_cons (ds_set 4 (de_var 0)) (dss_cons (ds_for (vs := [5]) (di_rng1 F.n_range (da_cons (de_var 3) (da_nil))) (dg_name 5) (dss_one (ds_set 4 (de_bin dop_add (de_bin dop_add (de_var 4) (de_bin dop_div (de_bin dop_mulA (de_var 4) (de_var 2)) (de_int))) (de_var 1))))) (dss_one (ds_ret (de_var 4))))
def B__law_left : Cs := cSeq (cPar2 4 5 (bCons (bVar 0) (bCons (bCon (.int 0)) (bNil)))) (cSeq (cWhile 1000 (bAndT (bTst (bBin dLt (bVar 5) (bVar 3))) (bTst (bBin dGe (bVar 4) (bVar 1)))) (cSeq (cSet 4 (bBin dAdd (bBin dSub (bVar 4) (bVar 1)) (bBin dDiv (bBin dMulA (bBin dSub (bVar 4) (bVar 1)) (bVar 2)) (bCon (.int 10000))))) (cSet 5 (bBin dAdd (bVar 5) (bCon (.int 1)))))) (cRet (bVar 5)))
def M__law_left : FnS := fnS 6 B__law_left
theorem ok__law_left {g : Gb} (F : Facts g) : Fn g 1 "_law_left" 4 M__law_left := by
  obtain ⟨f, c, fd, h1, h2⟩ := F.f__law_left
  exact fn_okP (k := 0) (fun _ _ _ _ _ _ => False) h1 h2 sc__law_left (h1.binds fun _ _ _ _ _ _ us hl => match us, hl with | [_, _, _, _], _ => rfl) fun A outer s H E av =>
    dss_cons (ds_par2 4 5 (da_cons (de_var 0) (da_cons (de_int) (da_nil)))) (dss_cons (ds_while 1000 (dt_w (dw_and (dt_cmp dop_lt (de_var 5) (de_var 3)) (dw_and1 (dt_cmp dop_ge (de_var 4) (de_var 1))))) (dss_cons (ds_set 4 (de_bin dop_add (de_bin dop_sub (de_var 4) (de_var 1)) (de_bin dop_div (de_bin dop_mulA (de_bin dop_sub (de_var 4) (de_var 1)) (de_var 2)) (de_int)))) (dss_one (ds_set 5 (de_bin dop_add (de_var 5) (de_int)))))) (dss_one (ds_ret (de_var 5))))
def L__law_plain : List (Cb D) := [bMake "Plan" M_Plan___init__ (bCons (bNeg (bCon (.int 1))) (bCons (bTup (bNil)) (bCons (bTup (bCons (bTup (bCons (bCon (.int 0)) (bCons (bCon (.int 0)) (bNil)))) (bNil))) (bCons (bCon (.int 1)) (bNil))))),
  bMake "Plan" M_Plan___init__ (bCons (bCon (.int 1001)) (bCons (bTup (bNil)) (bCons (bTup (bCons (bTup (bCons (bCon (.int 0)) (bCons (bCon (.int 0)) (bNil)))) (bNil))) (bCons (bCon (.int 1)) (bNil))))),
  bMake "Plan" M_Plan___init__ (bCons (bCon (.int 1)) (bCons (bTup (bNil)) (bCons (bTup (bCons (bTup (bCons (bCon (.int 0)) (bCons (bCon (.int 0)) (bNil)))) (bNil))) (bCons (bNeg (bCon (.int 1))) (bNil))))),
  bMake "Plan" M_Plan___init__ (bCons (bCon (.int 1)) (bCons (bTup (bCons (bTup (bCons (bCon (.int 1001)) (bCons (bCon (.int 1)) (bNil)))) (bNil))) (bCons (bTup (bCons (bTup (bCons (bCon (.int 0)) (bCons (bCon (.int 0)) (bNil)))) (bNil))) (bCons (bCon (.int 1)) (bNil))))),
  bMake "Plan" M_Plan___init__ (bCons (bCon (.int 1)) (bCons (bTup (bCons (bTup (bCons (bCon (.int 1)) (bCons (bCon (.int 2001)) (bNil)))) (bNil))) (bCons (bTup (bCons (bTup (bCons (bCon (.int 0)) (bCons (bCon (.int 0)) (bNil)))) (bNil))) (bCons (bCon (.int 1)) (bNil))))),
  bMake "Plan" M_Plan___init__ (bCons (bCon (.int 1)) (bCons (bTup (bNil)) (bCons (bTup (bNil)) (bCons (bCon (.int 1)) (bNil))))),
  bMake "Plan" M_Plan___init__ (bCons (bCon (.int 1)) (bCons (bTup (bNil)) (bCons (bTup (bCons (bTup (bCons (bCon (.int 1)) (bCons (bCon (.int 0)) (bNil)))) (bNil))) (bCons (bCon (.int 1)) (bNil))))),
  bMake "Plan" M_Plan___init__ (bCons (bCon (.int 1)) (bCons (bTup (bNil)) (bCons (bTup (bCons (bTup (bCons (bCon (.int 0)) (bCons (bCon (.int 1001)) (bNil)))) (bNil))) (bCons (bCon (.int 1)) (bNil))))),
  bMake "Plan" M_Plan___init__ (bCons (bCon (.int 1)) (bCons (bTup (bNil)) (bCons (bTup (bCons (bTup (bCons (bCon (.int 0)) (bCons (bCon (.int 5)) (bNil)))) (bCons (bTup (bCons (bCon (.int 1)) (bCons (bCon (.int 4)) (bNil)))) (bNil)))) (bCons (bCon (.int 1)) (bNil))))),
  bMake "Plan" M_Plan___init__ (bCons (bCon (.int 1)) (bCons (bTup (bNil)) (bCons (bTup (bCons (bTup (bCons (bCon (.int 0)) (bCons (bCon (.int 5)) (bNil)))) (bCons (bTup (bCons (bCon (.int 0)) (bCons (bCon (.int 6)) (bNil)))) (bNil)))) (bCons (bCon (.int 1)) (bNil))))),
  bMeth T_own_part "own_part" (bVar 0) (bCons (bNeg (bCon (.int 1))) (bCons (bCon (.int 1)) (bCons (bCon (.int 1)) (bNil)))),
  bMeth T_own_part "own_part" (bVar 0) (bCons (bCon (.int 1)) (bCons (bNeg (bCon (.int 1))) (bCons (bCon (.int 1)) (bNil)))),
  bMeth T_own_part "own_part" (bVar 0) (bCons (bCon (.int 1)) (bCons (bCon (.int 1)) (bCons (bNeg (bCon (.int 1))) (bNil)))),
  bMeth T_met_part "met_part" (bVar 0) (bCons (bNeg (bCon (.int 1))) (bCons (bCon (.int 1)) (bNil))),
  bMeth T_met_part "met_part" (bVar 0) (bCons (bCon (.int 1)) (bCons (bNeg (bCon (.int 1))) (bNil))),
  bMeth T_least_for_all "least_for_all" (bVar 0) (bCons (bNeg (bCon (.int 1))) (bNil)),
  bMeth T_owned_share "owned_share" (bVar 0) (bCons (bNeg (bCon (.int 1))) (bNil)),
  bMeth T_pay_in "pay_in" (bVar 1) (bCons (bNeg (bCon (.int 1))) (bCons (bCon (.int 1)) (bNil))),
  bMeth T_grow_by "grow_by" (bVar 1) (bCons (bNeg (bCon (.int 10001))) (bNil)),
  bMeth T_take_out "take_out" (bVar 1) (bCons (bCon (.int 0)) (bNil)),
  bMeth T_take_out "take_out" (bVar 1) (bCons (bCon (.int 1)) (bNil)),
  bCallP M_grown_money (bCons (bNeg (bCon (.int 1))) (bCons (bCon (.int 1)) (bCons (bCon (.int 1)) (bCons (bCon (.int 1)) (bNil))))),
  bCallP M_grown_money (bCons (bCon (.int 1)) (bCons (bNeg (bCon (.int 1))) (bCons (bCon (.int 1)) (bCons (bCon (.int 1)) (bNil))))),
  bCallP M_grown_money (bCons (bCon (.int 1)) (bCons (bCon (.int 1)) (bCons (bNeg (bCon (.int 1))) (bCons (bCon (.int 1)) (bNil))))),
  bCallP M_grown_money (bCons (bCon (.int 1)) (bCons (bCon (.int 1)) (bCons (bCon (.int 1)) (bCons (bCon (.int 81)) (bNil))))),
  bCallP M_least_each (bCons (bCon (.int 0)) (bCons (bCon (.int 0)) (bCons (bCon (.int 0)) (bCons (bCon (.int 1)) (bNil))))),
  bCallP M_least_each (bCons (bCon (.int 0)) (bCons (bCon (.int 0)) (bCons (bCon (.int 1)) (bCons (bNeg (bCon (.int 1))) (bNil))))),
  bCallP M_least_each (bCons (bNeg (bCon (.int 1))) (bCons (bCon (.int 0)) (bCons (bCon (.int 1)) (bCons (bCon (.int 1)) (bNil))))),
  bCallP M_paid_for_years (bCons (bCon (.int 1)) (bCons (bCon (.int 1)) (bCons (bCon (.int 0)) (bNil)))),
  bCallP M_paid_for_years (bCons (bCon (.int 1)) (bCons (bCon (.int 1)) (bCons (bCon (.int 81)) (bNil)))),
  bCallP M_paid_for_years (bCons (bNeg (bCon (.int 1))) (bCons (bCon (.int 1)) (bCons (bCon (.int 1)) (bNil)))),
  bCallP M_paid_for_years (bCons (bCon (.int 1)) (bCons (bNeg (bCon (.int 1))) (bCons (bCon (.int 1)) (bNil)))),
  bCallP M_years_it_lasts (bCons (bCon (.int 1)) (bCons (bCon (.int 0)) (bCons (bCon (.int 1)) (bNil)))),
  bCallP M_years_it_lasts (bCons (bNeg (bCon (.int 1))) (bCons (bCon (.int 1)) (bCons (bCon (.int 1)) (bNil)))),
  bCallP M_years_it_lasts (bCons (bCon (.int 1)) (bCons (bCon (.int 1)) (bCons (bNeg (bCon (.int 1))) (bNil))))]
def B__law_plain : Cs := cSeq (cSet 0 (bMake "Plan" M_Plan___init__ (bCons (bCon (.int 100)) (bCons (bTup (bCons (bTup (bCons (bCon (.int 30)) (bCons (bCon (.int 1000)) (bNil)))) (bCons (bTup (bCons (bCon (.int 20)) (bCons (bCon (.int 500)) (bNil)))) (bNil)))) (bCons (bTup (bCons (bTup (bCons (bCon (.int 0)) (bCons (bCon (.int 0)) (bNil)))) (bCons (bTup (bCons (bCon (.int 2)) (bCons (bCon (.int 500)) (bNil)))) (bCons (bTup (bCons (bCon (.int 4)) (bCons (bCon (.int 1000)) (bNil)))) (bNil))))) (bCons (bCon (.int 5000)) (bNil))))))) (cSeq (cSet 1 (bMake "Pot" M_Pot___init__ (bCons (bVar 0) (bNil)))) (cSeq (cSet 2 (bLst (bCons (bMeth T_own_part "own_part" (bVar 0) (bCons (bCon (.int 10000)) (bCons (bCon (.int 40)) (bCons (bCon (.int 0)) (bNil))))) (bCons (bMeth T_met_part "met_part" (bVar 0) (bCons (bCon (.int 10000)) (bCons (bCon (.int 400)) (bNil)))) (bCons (bMeth T_least_for_all "least_for_all" (bVar 0) (bCons (bCon (.int 10000)) (bNil))) (bCons (bMeth T_owned_share "owned_share" (bVar 0) (bCons (bCon (.int 3)) (bNil))) (bCons (bMeth T_pay_in "pay_in" (bVar 1) (bCons (bCon (.int 10000)) (bCons (bCon (.int 40)) (bNil)))) (bNil)))))))) (cSeq (cSet 2 (bBin dAdd (bVar 2) (bLst (bCons (bMeth T_grow_by "grow_by" (bVar 1) (bCons (bCon (.int 500)) (bNil))) (bCons (bMeth T_owned_now "owned_now" (bVar 1) bNil) (bCons (bMeth T_begin_year "begin_year" (bVar 1) bNil) (bCons (bMeth T_begin_year "begin_year" (bVar 1) bNil) (bCons (bMeth T_owned_now "owned_now" (bVar 1) bNil) (bCons (bMeth T_take_out "take_out" (bVar 1) (bCons (bCon (.int 20)) (bNil))) (bCons (bMeth T_leave_now "leave_now" (bVar 1) bNil) (bNil))))))))))) (cSeq (cSet 2 (bBin dAdd (bVar 2) (bLst (bCons (bTup (bCons (bFld C_own "own" (bVar 1)) (bCons (bFld C_house "house" (bVar 1)) (bCons (bFld C_years "years" (bVar 1)) (bNil))))) (bCons (bCallP M_grown_money (bCons (bCon (.int 100)) (bCons (bCon (.int 50)) (bCons (bCon (.int 500)) (bCons (bCon (.int 3)) (bNil)))))) (bCons (bCallP M_least_each (bCons (bCon (.int 0)) (bCons (bCon (.int 0)) (bCons (bCon (.int 4)) (bCons (bCon (.int 1001)) (bNil)))))) (bCons (bCallP M_paid_for_years (bCons (bCon (.int 1000)) (bCons (bCon (.int 0)) (bCons (bCon (.int 4)) (bNil))))) (bNil)))))))) (cSeq (cSet 2 (bBin dAdd (bVar 2) (bLst (bCons (bCallP M_paid_for_years (bCons (bCon (.int 1000)) (bCons (bCon (.int 500)) (bCons (bCon (.int 4)) (bNil))))) (bCons (bCallP M_years_it_lasts (bCons (bCon (.int 1000)) (bCons (bCon (.int 300)) (bCons (bCon (.int 0)) (bNil))))) (bCons (bCallP M_years_it_lasts (bCons (bCon (.int 1000)) (bCons (bCon (.int 10)) (bCons (bCon (.int 500)) (bNil))))) (bCons (bCallP M_does_last (bCons (bCon (.int 10)) (bCons (bCon (.int 5)) (bCons (bCon (.int 0)) (bCons (bCon (.int 2)) (bNil)))))) (bNil)))))))) (cSeq (cSet 2 (bBin dAdd (bVar 2) (bLst (bCons (bMeth T_own_part "own_part" (bVar 0) (bCons (bCon (.int 100000)) (bCons (bCon (.int 500)) (bCons (bCon (.int 4900)) (bNil))))) (bCons (bMeth T_least_for_all "least_for_all" (bMake "Plan" M_Plan___init__ (bCons (bCon (.int 0)) (bCons (bTup (bNil)) (bCons (bTup (bCons (bTup (bCons (bCon (.int 0)) (bCons (bCon (.int 1000)) (bNil)))) (bNil))) (bCons (bCon (.int 0)) (bNil)))))) (bCons (bCon (.int 50)) (bNil))) (bCons (bMeth T_grow_by "grow_by" (bVar 1) (bCons (bNeg (bCon (.int 10000))) (bNil))) (bNil))))))) (cSeq (cSet 3 (bLst (bCons (bCon (.lam 0)) (bCons (bCon (.lam 1)) (bCons (bCon (.lam 2)) (bNil)))))) (cSeq (cSet 3 (bBin dAdd (bVar 3) (bLst (bCons (bCon (.lam 3)) (bCons (bCon (.lam 4)) (bCons (bCon (.lam 5)) (bNil))))))) (cSeq (cSet 3 (bBin dAdd (bVar 3) (bLst (bCons (bCon (.lam 6)) (bCons (bCon (.lam 7)) (bCons (bCon (.lam 8)) (bNil))))))) (cSeq (cSet 3 (bBin dAdd (bVar 3) (bLst (bCons (bCon (.lam 9)) (bCons (bCon (.lam 10)) (bCons (bCon (.lam 11)) (bCons (bCon (.lam 12)) (bNil)))))))) (cSeq (cSet 3 (bBin dAdd (bVar 3) (bLst (bCons (bCon (.lam 13)) (bCons (bCon (.lam 14)) (bCons (bCon (.lam 15)) (bCons (bCon (.lam 16)) (bNil)))))))) (cSeq (cSet 3 (bBin dAdd (bVar 3) (bLst (bCons (bCon (.lam 17)) (bCons (bCon (.lam 18)) (bCons (bCon (.lam 19)) (bCons (bCon (.lam 20)) (bCons (bCon (.lam 21)) (bNil))))))))) (cSeq (cSet 3 (bBin dAdd (bVar 3) (bLst (bCons (bCon (.lam 22)) (bCons (bCon (.lam 23)) (bCons (bCon (.lam 24)) (bCons (bCon (.lam 25)) (bNil)))))))) (cSeq (cSet 3 (bBin dAdd (bVar 3) (bLst (bCons (bCon (.lam 26)) (bCons (bCon (.lam 27)) (bCons (bCon (.lam 28)) (bCons (bCon (.lam 29)) (bNil)))))))) (cSeq (cSet 3 (bBin dAdd (bVar 3) (bLst (bCons (bCon (.lam 30)) (bCons (bCon (.lam 31)) (bCons (bCon (.lam 32)) (bCons (bCon (.lam 33)) (bNil)))))))) (cSeq (cSet 3 (bBin dAdd (bVar 3) (bLst (bCons (bCon (.lam 34)) (bNil))))) (cSeq (cIf (bOrT (bTst (bBin dNeA (bComp [4, 5] (bEnumA (bCons (bVar 3) (bNil))) (tgTup [tgName 4, tgName 5]) (tcB [4, 5] 5 told_ret told_en L__law_plain "PensionError") (bVar 4)) (bLst (bNil)))) (bTst (bBin dNeA (bCon k_MOST_YEARS) (bCon (.int 80))))) (cRet (bCon (.bl false))) (cNop)) (cRet (bBin dEqA (bVar 2) (bLst (bCons (bCon (.int 400)) (bCons (bCon (.int 350)) (bCons (bCon (.int 500)) (bCons (bCon (.int 500)) (bCons (bTup (bCons (bCon (.int 400)) (bCons (bCon (.int 350)) (bNil)))) (bCons (bCon (.int 37)) (bCons (bCon (.int 420)) (bCons (bCon .non) (bCons (bCon .non) (bCons (bCon (.int 603)) (bCons (bCon .non) (bCons (bTup (bCons (bCon (.int 583)) (bCons (bCon (.int 184)) (bNil)))) (bCons (bTup (bCons (bCon (.int 0)) (bCons (bCon (.int 0)) (bCons (bCon (.int 2)) (bNil))))) (bCons (bCon (.int 272)) (bCons (bCon (.int 251)) (bCons (bCon (.int 250)) (bCons (bCon (.int 268)) (bCons (bCon (.int 3)) (bCons (bCon (.int 80)) (bCons (bCon (.bl true)) (bCons (bCon (.int 100)) (bCons (bCon (.int 0)) (bCons (bCon (.int 0)) (bNil))))))))))))))))))))))))))))))))))))))))))))
def M__law_plain : FnS := fnS 6 B__law_plain
theorem ok__law_plain {g : Gb} (F : Facts g) : Fn g 8 "_law_plain" 0 M__law_plain := by
  obtain ⟨f, c, fd, h1, h2, PP, TB, hmT, hu⟩ := F.f__law_plain
  obtain ⟨ga, ca, fdt, TF⟩ := F.told
  exact fn_okP (k := 7) (lamQ g 5 L__law_plain) h1 h2 sc__law_plain (h1.binds fun _ _ _ _ _ _ us hl => match us, hl with | [], _ => rfl) fun A outer s H E av =>
    dss_cons (ds_set 0 (de_make (ok_Plan___init__ F) (by decide) (da_cons (de_int) (da_cons (de_tup (da_cons (de_tup (da_cons (de_int) (da_cons (de_int) (da_nil)))) (da_cons (de_tup (da_cons (de_int) (da_cons (de_int) (da_nil)))) (da_nil)))) (da_cons (de_tup (da_cons (de_tup (da_cons (de_int) (da_cons (de_int) (da_nil)))) (da_cons (de_tup (da_cons (de_int) (da_cons (de_int) (da_nil)))) (da_cons (de_tup (da_cons (de_int) (da_cons (de_int) (da_nil)))) (da_nil))))) (da_cons (de_int) (da_nil))))) (bCons_len (bCons_len (bCons_len (bCons_len bNil_len)))))) (dss_cons (ds_set 1 (de_make (ok_Pot___init__ F) (by decide) (da_cons (de_var 0) (da_nil)) (bCons_len bNil_len))) (dss_cons (ds_set 2 (de_lst (da_cons (de_meth (by decide) (mt_own_part F) (de_var 0) (da_cons (de_int) (da_cons (de_int) (da_cons (de_int) (da_nil)))) (bCons_len (bCons_len (bCons_len bNil_len)))) (da_cons (de_meth (by decide) (mt_met_part F) (de_var 0) (da_cons (de_int) (da_cons (de_int) (da_nil))) (bCons_len (bCons_len bNil_len))) (da_cons (de_meth (by decide) (mt_least_for_all F) (de_var 0) (da_cons (de_int) (da_nil)) (bCons_len bNil_len)) (da_cons (de_meth (by decide) (mt_owned_share F) (de_var 0) (da_cons (de_int) (da_nil)) (bCons_len bNil_len)) (da_cons (de_meth (by decide) (mt_pay_in F) (de_var 1) (da_cons (de_int) (da_cons (de_int) (da_nil))) (bCons_len (bCons_len bNil_len))) (da_nil)))))))) (dss_cons (ds_set 2 (de_bin dop_add (de_var 2) (de_lst (da_cons (de_meth (by decide) (mt_grow_by F) (de_var 1) (da_cons (de_int) (da_nil)) (bCons_len bNil_len)) (da_cons (de_meth0 (by decide) (mt_owned_now F) (de_var 1)) (da_cons (de_meth0 (by decide) (mt_begin_year F) (de_var 1)) (da_cons (de_meth0 (by decide) (mt_begin_year F) (de_var 1)) (da_cons (de_meth0 (by decide) (mt_owned_now F) (de_var 1)) (da_cons (de_meth (by decide) (mt_take_out F) (de_var 1) (da_cons (de_int) (da_nil)) (bCons_len bNil_len)) (da_cons (de_meth0 (by decide) (mt_leave_now F) (de_var 1)) (da_nil))))))))))) (dss_cons (ds_set 2 (de_bin dop_add (de_var 2) (de_lst (da_cons (de_tup (da_cons (de_fld (cf_own F) (de_var 1)) (da_cons (de_fld (cf_house F) (de_var 1)) (da_cons (de_fld (cf_years F) (de_var 1)) (da_nil))))) (da_cons (de_callP (ok_grown_money F) (by decide) (ha := da_cons (de_int) (da_cons (de_int) (da_cons (de_int) (da_cons (de_int) (da_nil))))) (hlen := (bCons_len (bCons_len (bCons_len (bCons_len bNil_len)))))) (da_cons (de_callP (ok_least_each F) (by decide) (ha := da_cons (de_int) (da_cons (de_int) (da_cons (de_int) (da_cons (de_int) (da_nil))))) (hlen := (bCons_len (bCons_len (bCons_len (bCons_len bNil_len)))))) (da_cons (de_callP (ok_paid_for_years F) (by decide) (ha := da_cons (de_int) (da_cons (de_int) (da_cons (de_int) (da_nil)))) (hlen := (bCons_len (bCons_len (bCons_len bNil_len))))) (da_nil)))))))) (dss_cons (ds_set 2 (de_bin dop_add (de_var 2) (de_lst (da_cons (de_callP (ok_paid_for_years F) (by decide) (ha := da_cons (de_int) (da_cons (de_int) (da_cons (de_int) (da_nil)))) (hlen := (bCons_len (bCons_len (bCons_len bNil_len))))) (da_cons (de_callP (ok_years_it_lasts F) (by decide) (ha := da_cons (de_int) (da_cons (de_int) (da_cons (de_int) (da_nil)))) (hlen := (bCons_len (bCons_len (bCons_len bNil_len))))) (da_cons (de_callP (ok_years_it_lasts F) (by decide) (ha := da_cons (de_int) (da_cons (de_int) (da_cons (de_int) (da_nil)))) (hlen := (bCons_len (bCons_len (bCons_len bNil_len))))) (da_cons (de_callP (ok_does_last F) (by decide) (ha := da_cons (de_int) (da_cons (de_int) (da_cons (de_int) (da_cons (de_int) (da_nil))))) (hlen := (bCons_len (bCons_len (bCons_len (bCons_len bNil_len)))))) (da_nil)))))))) (dss_cons (ds_set 2 (de_bin dop_add (de_var 2) (de_lst (da_cons (de_meth (by decide) (mt_own_part F) (de_var 0) (da_cons (de_int) (da_cons (de_int) (da_cons (de_int) (da_nil)))) (bCons_len (bCons_len (bCons_len bNil_len)))) (da_cons (de_meth (by decide) (mt_least_for_all F) (de_make (ok_Plan___init__ F) (by decide) (da_cons (de_int) (da_cons (de_tup (da_nil)) (da_cons (de_tup (da_cons (de_tup (da_cons (de_int) (da_cons (de_int) (da_nil)))) (da_nil))) (da_cons (de_int) (da_nil))))) (bCons_len (bCons_len (bCons_len (bCons_len bNil_len))))) (da_cons (de_int) (da_nil)) (bCons_len bNil_len)) (da_cons (de_meth (by decide) (mt_grow_by F) (de_var 1) (da_cons (de_neg (de_int)) (da_nil)) (bCons_len bNil_len)) (da_nil))))))) (dss_cons (ds_set 3 (de_lst (da_cons (de_lamQ 0 TB hmT hu rfl rfl (by change lamSB (defScope s__law_plain) _ = true; decide +kernel) (fun _ _ _ _ _ _ _ _ => de_make (ok_Plan___init__ F) (by decide) (da_cons (de_neg (de_int)) (da_cons (de_tup (da_nil)) (da_cons (de_tup (da_cons (de_tup (da_cons (de_int) (da_cons (de_int) (da_nil)))) (da_nil))) (da_cons (de_int) (da_nil))))) (bCons_len (bCons_len (bCons_len (bCons_len bNil_len)))))) (da_cons (de_lamQ 1 TB hmT hu rfl rfl (by change lamSB (defScope s__law_plain) _ = true; decide +kernel) (fun _ _ _ _ _ _ _ _ => de_make (ok_Plan___init__ F) (by decide) (da_cons (de_int) (da_cons (de_tup (da_nil)) (da_cons (de_tup (da_cons (de_tup (da_cons (de_int) (da_cons (de_int) (da_nil)))) (da_nil))) (da_cons (de_int) (da_nil))))) (bCons_len (bCons_len (bCons_len (bCons_len bNil_len)))))) (da_cons (de_lamQ 2 TB hmT hu rfl rfl (by change lamSB (defScope s__law_plain) _ = true; decide +kernel) (fun _ _ _ _ _ _ _ _ => de_make (ok_Plan___init__ F) (by decide) (da_cons (de_int) (da_cons (de_tup (da_nil)) (da_cons (de_tup (da_cons (de_tup (da_cons (de_int) (da_cons (de_int) (da_nil)))) (da_nil))) (da_cons (de_neg (de_int)) (da_nil))))) (bCons_len (bCons_len (bCons_len (bCons_len bNil_len)))))) (da_nil)))))) (dss_cons (ds_set 3 (de_bin dop_add (de_var 3) (de_lst (da_cons (de_lamQ 3 TB hmT hu rfl rfl (by change lamSB (defScope s__law_plain) _ = true; decide +kernel) (fun _ _ _ _ _ _ _ _ => de_make (ok_Plan___init__ F) (by decide) (da_cons (de_int) (da_cons (de_tup (da_cons (de_tup (da_cons (de_int) (da_cons (de_int) (da_nil)))) (da_nil))) (da_cons (de_tup (da_cons (de_tup (da_cons (de_int) (da_cons (de_int) (da_nil)))) (da_nil))) (da_cons (de_int) (da_nil))))) (bCons_len (bCons_len (bCons_len (bCons_len bNil_len)))))) (da_cons (de_lamQ 4 TB hmT hu rfl rfl (by change lamSB (defScope s__law_plain) _ = true; decide +kernel) (fun _ _ _ _ _ _ _ _ => de_make (ok_Plan___init__ F) (by decide) (da_cons (de_int) (da_cons (de_tup (da_cons (de_tup (da_cons (de_int) (da_cons (de_int) (da_nil)))) (da_nil))) (da_cons (de_tup (da_cons (de_tup (da_cons (de_int) (da_cons (de_int) (da_nil)))) (da_nil))) (da_cons (de_int) (da_nil))))) (bCons_len (bCons_len (bCons_len (bCons_len bNil_len)))))) (da_cons (de_lamQ 5 TB hmT hu rfl rfl (by change lamSB (defScope s__law_plain) _ = true; decide +kernel) (fun _ _ _ _ _ _ _ _ => de_make (ok_Plan___init__ F) (by decide) (da_cons (de_int) (da_cons (de_tup (da_nil)) (da_cons (de_tup (da_nil)) (da_cons (de_int) (da_nil))))) (bCons_len (bCons_len (bCons_len (bCons_len bNil_len)))))) (da_nil))))))) (dss_cons (ds_set 3 (de_bin dop_add (de_var 3) (de_lst (da_cons (de_lamQ 6 TB hmT hu rfl rfl (by change lamSB (defScope s__law_plain) _ = true; decide +kernel) (fun _ _ _ _ _ _ _ _ => de_make (ok_Plan___init__ F) (by decide) (da_cons (de_int) (da_cons (de_tup (da_nil)) (da_cons (de_tup (da_cons (de_tup (da_cons (de_int) (da_cons (de_int) (da_nil)))) (da_nil))) (da_cons (de_int) (da_nil))))) (bCons_len (bCons_len (bCons_len (bCons_len bNil_len)))))) (da_cons (de_lamQ 7 TB hmT hu rfl rfl (by change lamSB (defScope s__law_plain) _ = true; decide +kernel) (fun _ _ _ _ _ _ _ _ => de_make (ok_Plan___init__ F) (by decide) (da_cons (de_int) (da_cons (de_tup (da_nil)) (da_cons (de_tup (da_cons (de_tup (da_cons (de_int) (da_cons (de_int) (da_nil)))) (da_nil))) (da_cons (de_int) (da_nil))))) (bCons_len (bCons_len (bCons_len (bCons_len bNil_len)))))) (da_cons (de_lamQ 8 TB hmT hu rfl rfl (by change lamSB (defScope s__law_plain) _ = true; decide +kernel) (fun _ _ _ _ _ _ _ _ => de_make (ok_Plan___init__ F) (by decide) (da_cons (de_int) (da_cons (de_tup (da_nil)) (da_cons (de_tup (da_cons (de_tup (da_cons (de_int) (da_cons (de_int) (da_nil)))) (da_cons (de_tup (da_cons (de_int) (da_cons (de_int) (da_nil)))) (da_nil)))) (da_cons (de_int) (da_nil))))) (bCons_len (bCons_len (bCons_len (bCons_len bNil_len)))))) (da_nil))))))) (dss_cons (ds_set 3 (de_bin dop_add (de_var 3) (de_lst (da_cons (de_lamQ 9 TB hmT hu rfl rfl (by change lamSB (defScope s__law_plain) _ = true; decide +kernel) (fun _ _ _ _ _ _ _ _ => de_make (ok_Plan___init__ F) (by decide) (da_cons (de_int) (da_cons (de_tup (da_nil)) (da_cons (de_tup (da_cons (de_tup (da_cons (de_int) (da_cons (de_int) (da_nil)))) (da_cons (de_tup (da_cons (de_int) (da_cons (de_int) (da_nil)))) (da_nil)))) (da_cons (de_int) (da_nil))))) (bCons_len (bCons_len (bCons_len (bCons_len bNil_len)))))) (da_cons (de_lamQ 10 TB hmT hu rfl rfl (by change lamSB (defScope s__law_plain) _ = true; decide +kernel) (fun _ _ _ _ _ _ _ _ => de_meth (by decide) (mt_own_part F) (de_var 0) (da_cons (de_neg (de_int)) (da_cons (de_int) (da_cons (de_int) (da_nil)))) (bCons_len (bCons_len (bCons_len bNil_len))))) (da_cons (de_lamQ 11 TB hmT hu rfl rfl (by change lamSB (defScope s__law_plain) _ = true; decide +kernel) (fun _ _ _ _ _ _ _ _ => de_meth (by decide) (mt_own_part F) (de_var 0) (da_cons (de_int) (da_cons (de_neg (de_int)) (da_cons (de_int) (da_nil)))) (bCons_len (bCons_len (bCons_len bNil_len))))) (da_cons (de_lamQ 12 TB hmT hu rfl rfl (by change lamSB (defScope s__law_plain) _ = true; decide +kernel) (fun _ _ _ _ _ _ _ _ => de_meth (by decide) (mt_own_part F) (de_var 0) (da_cons (de_int) (da_cons (de_int) (da_cons (de_neg (de_int)) (da_nil)))) (bCons_len (bCons_len (bCons_len bNil_len))))) (da_nil)))))))) (dss_cons (ds_set 3 (de_bin dop_add (de_var 3) (de_lst (da_cons (de_lamQ 13 TB hmT hu rfl rfl (by change lamSB (defScope s__law_plain) _ = true; decide +kernel) (fun _ _ _ _ _ _ _ _ => de_meth (by decide) (mt_met_part F) (de_var 0) (da_cons (de_neg (de_int)) (da_cons (de_int) (da_nil))) (bCons_len (bCons_len bNil_len)))) (da_cons (de_lamQ 14 TB hmT hu rfl rfl (by change lamSB (defScope s__law_plain) _ = true; decide +kernel) (fun _ _ _ _ _ _ _ _ => de_meth (by decide) (mt_met_part F) (de_var 0) (da_cons (de_int) (da_cons (de_neg (de_int)) (da_nil))) (bCons_len (bCons_len bNil_len)))) (da_cons (de_lamQ 15 TB hmT hu rfl rfl (by change lamSB (defScope s__law_plain) _ = true; decide +kernel) (fun _ _ _ _ _ _ _ _ => de_meth (by decide) (mt_least_for_all F) (de_var 0) (da_cons (de_neg (de_int)) (da_nil)) (bCons_len bNil_len))) (da_cons (de_lamQ 16 TB hmT hu rfl rfl (by change lamSB (defScope s__law_plain) _ = true; decide +kernel) (fun _ _ _ _ _ _ _ _ => de_meth (by decide) (mt_owned_share F) (de_var 0) (da_cons (de_neg (de_int)) (da_nil)) (bCons_len bNil_len))) (da_nil)))))))) (dss_cons (ds_set 3 (de_bin dop_add (de_var 3) (de_lst (da_cons (de_lamQ 17 TB hmT hu rfl rfl (by change lamSB (defScope s__law_plain) _ = true; decide +kernel) (fun _ _ _ _ _ _ _ _ => de_meth (by decide) (mt_pay_in F) (de_var 1) (da_cons (de_neg (de_int)) (da_cons (de_int) (da_nil))) (bCons_len (bCons_len bNil_len)))) (da_cons (de_lamQ 18 TB hmT hu rfl rfl (by change lamSB (defScope s__law_plain) _ = true; decide +kernel) (fun _ _ _ _ _ _ _ _ => de_meth (by decide) (mt_grow_by F) (de_var 1) (da_cons (de_neg (de_int)) (da_nil)) (bCons_len bNil_len))) (da_cons (de_lamQ 19 TB hmT hu rfl rfl (by change lamSB (defScope s__law_plain) _ = true; decide +kernel) (fun _ _ _ _ _ _ _ _ => de_meth (by decide) (mt_take_out F) (de_var 1) (da_cons (de_int) (da_nil)) (bCons_len bNil_len))) (da_cons (de_lamQ 20 TB hmT hu rfl rfl (by change lamSB (defScope s__law_plain) _ = true; decide +kernel) (fun _ _ _ _ _ _ _ _ => de_meth (by decide) (mt_take_out F) (de_var 1) (da_cons (de_int) (da_nil)) (bCons_len bNil_len))) (da_cons (de_lamQ 21 TB hmT hu rfl rfl (by change lamSB (defScope s__law_plain) _ = true; decide +kernel) (fun _ _ _ _ _ _ _ _ => de_callP (ok_grown_money F) (by decide) (ha := da_cons (de_neg (de_int)) (da_cons (de_int) (da_cons (de_int) (da_cons (de_int) (da_nil))))) (hlen := (bCons_len (bCons_len (bCons_len (bCons_len bNil_len))))))) (da_nil))))))))) (dss_cons (ds_set 3 (de_bin dop_add (de_var 3) (de_lst (da_cons (de_lamQ 22 TB hmT hu rfl rfl (by change lamSB (defScope s__law_plain) _ = true; decide +kernel) (fun _ _ _ _ _ _ _ _ => de_callP (ok_grown_money F) (by decide) (ha := da_cons (de_int) (da_cons (de_neg (de_int)) (da_cons (de_int) (da_cons (de_int) (da_nil))))) (hlen := (bCons_len (bCons_len (bCons_len (bCons_len bNil_len))))))) (da_cons (de_lamQ 23 TB hmT hu rfl rfl (by change lamSB (defScope s__law_plain) _ = true; decide +kernel) (fun _ _ _ _ _ _ _ _ => de_callP (ok_grown_money F) (by decide) (ha := da_cons (de_int) (da_cons (de_int) (da_cons (de_neg (de_int)) (da_cons (de_int) (da_nil))))) (hlen := (bCons_len (bCons_len (bCons_len (bCons_len bNil_len))))))) (da_cons (de_lamQ 24 TB hmT hu rfl rfl (by change lamSB (defScope s__law_plain) _ = true; decide +kernel) (fun _ _ _ _ _ _ _ _ => de_callP (ok_grown_money F) (by decide) (ha := da_cons (de_int) (da_cons (de_int) (da_cons (de_int) (da_cons (de_int) (da_nil))))) (hlen := (bCons_len (bCons_len (bCons_len (bCons_len bNil_len))))))) (da_cons (de_lamQ 25 TB hmT hu rfl rfl (by change lamSB (defScope s__law_plain) _ = true; decide +kernel) (fun _ _ _ _ _ _ _ _ => de_callP (ok_least_each F) (by decide) (ha := da_cons (de_int) (da_cons (de_int) (da_cons (de_int) (da_cons (de_int) (da_nil))))) (hlen := (bCons_len (bCons_len (bCons_len (bCons_len bNil_len))))))) (da_nil)))))))) (dss_cons (ds_set 3 (de_bin dop_add (de_var 3) (de_lst (da_cons (de_lamQ 26 TB hmT hu rfl rfl (by change lamSB (defScope s__law_plain) _ = true; decide +kernel) (fun _ _ _ _ _ _ _ _ => de_callP (ok_least_each F) (by decide) (ha := da_cons (de_int) (da_cons (de_int) (da_cons (de_int) (da_cons (de_neg (de_int)) (da_nil))))) (hlen := (bCons_len (bCons_len (bCons_len (bCons_len bNil_len))))))) (da_cons (de_lamQ 27 TB hmT hu rfl rfl (by change lamSB (defScope s__law_plain) _ = true; decide +kernel) (fun _ _ _ _ _ _ _ _ => de_callP (ok_least_each F) (by decide) (ha := da_cons (de_neg (de_int)) (da_cons (de_int) (da_cons (de_int) (da_cons (de_int) (da_nil))))) (hlen := (bCons_len (bCons_len (bCons_len (bCons_len bNil_len))))))) (da_cons (de_lamQ 28 TB hmT hu rfl rfl (by change lamSB (defScope s__law_plain) _ = true; decide +kernel) (fun _ _ _ _ _ _ _ _ => de_callP (ok_paid_for_years F) (by decide) (ha := da_cons (de_int) (da_cons (de_int) (da_cons (de_int) (da_nil)))) (hlen := (bCons_len (bCons_len (bCons_len bNil_len)))))) (da_cons (de_lamQ 29 TB hmT hu rfl rfl (by change lamSB (defScope s__law_plain) _ = true; decide +kernel) (fun _ _ _ _ _ _ _ _ => de_callP (ok_paid_for_years F) (by decide) (ha := da_cons (de_int) (da_cons (de_int) (da_cons (de_int) (da_nil)))) (hlen := (bCons_len (bCons_len (bCons_len bNil_len)))))) (da_nil)))))))) (dss_cons (ds_set 3 (de_bin dop_add (de_var 3) (de_lst (da_cons (de_lamQ 30 TB hmT hu rfl rfl (by change lamSB (defScope s__law_plain) _ = true; decide +kernel) (fun _ _ _ _ _ _ _ _ => de_callP (ok_paid_for_years F) (by decide) (ha := da_cons (de_neg (de_int)) (da_cons (de_int) (da_cons (de_int) (da_nil)))) (hlen := (bCons_len (bCons_len (bCons_len bNil_len)))))) (da_cons (de_lamQ 31 TB hmT hu rfl rfl (by change lamSB (defScope s__law_plain) _ = true; decide +kernel) (fun _ _ _ _ _ _ _ _ => de_callP (ok_paid_for_years F) (by decide) (ha := da_cons (de_int) (da_cons (de_neg (de_int)) (da_cons (de_int) (da_nil)))) (hlen := (bCons_len (bCons_len (bCons_len bNil_len)))))) (da_cons (de_lamQ 32 TB hmT hu rfl rfl (by change lamSB (defScope s__law_plain) _ = true; decide +kernel) (fun _ _ _ _ _ _ _ _ => de_callP (ok_years_it_lasts F) (by decide) (ha := da_cons (de_int) (da_cons (de_int) (da_cons (de_int) (da_nil)))) (hlen := (bCons_len (bCons_len (bCons_len bNil_len)))))) (da_cons (de_lamQ 33 TB hmT hu rfl rfl (by change lamSB (defScope s__law_plain) _ = true; decide +kernel) (fun _ _ _ _ _ _ _ _ => de_callP (ok_years_it_lasts F) (by decide) (ha := da_cons (de_neg (de_int)) (da_cons (de_int) (da_cons (de_int) (da_nil)))) (hlen := (bCons_len (bCons_len (bCons_len bNil_len)))))) (da_nil)))))))) (dss_cons (ds_set 3 (de_bin dop_add (de_var 3) (de_lst (da_cons (de_lamQ 34 TB hmT hu rfl rfl (by change lamSB (defScope s__law_plain) _ = true; decide +kernel) (fun _ _ _ _ _ _ _ _ => de_callP (ok_years_it_lasts F) (by decide) (ha := da_cons (de_int) (da_cons (de_int) (da_cons (de_neg (de_int)) (da_nil)))) (hlen := (bCons_len (bCons_len (bCons_len bNil_len)))))) (da_nil))))) (dss_cons (ds_if (dt_w (dw_or (dt_cmp dop_neA (de_compB (fi := 5) [("k", 4), ("f", 5)] TF rfl (by decide) (di_enumA F.n_enumerate (da_cons (de_var 3) (da_nil))) (by change blkC N__law_plain (defScope s__law_plain) _ _ = true; decide +kernel) (fun Λ' h4 s H C cl fp => dg_tup (dgs_cons (dg_name 4) (dgs_cons (dg_name 5) (dgs_nil)))) (fun Λ' h4 s H C cl fp => de_var 4)) (de_lst (da_nil))) (dw_or1 (dt_cmp dop_neA (de_glob F.c_MOST_YEARS) (de_int))))) (dss_one (ds_ret (de_bl))) (dss_nil)) (dss_one (ds_ret (de_cmp dop_eqA (de_var 2) (de_lst (da_cons (de_int) (da_cons (de_int) (da_cons (de_int) (da_cons (de_int) (da_cons (de_tup (da_cons (de_int) (da_cons (de_int) (da_nil)))) (da_cons (de_int) (da_cons (de_int) (da_cons (de_non) (da_cons (de_non) (da_cons (de_int) (da_cons (de_non) (da_cons (de_tup (da_cons (de_int) (da_cons (de_int) (da_nil)))) (da_cons (de_tup (da_cons (de_int) (da_cons (de_int) (da_cons (de_int) (da_nil))))) (da_cons (de_int) (da_cons (de_int) (da_cons (de_int) (da_cons (de_int) (da_cons (de_int) (da_cons (de_int) (da_cons (de_bl) (da_cons (de_int) (da_cons (de_int) (da_cons (de_int) (da_nil)))))))))))))))))))))))))))))))))))))))))))))
def B_law : Cs := cSeq (cFor (bItemsA (bCallM M__law_rounds (bCons (bVar 0) (bCons (bCon (.int 1)) (bNil))))) (tgName 1) (cSeq (cAsg (bTup (bCons (bCallM M__law_roll (bCons (bVar 1) (bCons (bCon (.int 300)) (bNil)))) (bCons (bCallM M__law_roll (bCons (bVar 1) (bCons (bCon (.int 900)) (bNil)))) (bCons (bLst (bCons (bTup (bCons (bCon (.int 0)) (bCons (bCallM M__law_roll (bCons (bVar 1) (bCons (bCon (.int 400)) (bNil)))) (bNil)))) (bNil))) (bNil))))) (tgTup [tgName 8, tgName 9, tgName 10])) (cSeq (cSet 2 (bComp [3] (bRng1 (bCons (bCallM M__law_roll (bCons (bVar 1) (bCons (bCon (.int 3)) (bNil)))) (bNil))) (tgName 3) (bYes) (bTup (bCons (bCallM M__law_roll (bCons (bVar 1) (bCons (bCon (.int 80)) (bNil)))) (bCons (bCallM M__law_roll (bCons (bVar 1) (bCons (bCon (.int 2001)) (bNil)))) (bNil)))))) (cSeq (cFor (bRng1 (bCons (bCallM M__law_roll (bCons (bVar 1) (bCons (bCon (.int 3)) (bNil)))) (bNil))) (tgName 3) (cSet 10 (bBin dAdd (bVar 10) (bLst (bCons (bTup (bCons (bBin dAdd (bBin dAdd (bBin dIxA (bBin dIxA (bVar 10) (bNeg (bCon (.int 1)))) (bCon (.int 0))) (bCon (.int 1))) (bCallM M__law_roll (bCons (bVar 1) (bCons (bCon (.int 2)) (bNil))))) (bCons (bFn dMin2 (bCons (bCon (.int 1000)) (bCons (bBin dAdd (bBin dIxA (bBin dIxA (bVar 10) (bNeg (bCon (.int 1)))) (bCon (.int 1))) (bCallM M__law_roll (bCons (bVar 1) (bCons (bCon (.int 400)) (bNil))))) (bNil)))) (bNil)))) (bNil)))))) (cSeq (cSet 4 (bMake "Plan" M_Plan___init__ (bCons (bVar 8) (bCons (bVar 2) (bCons (bVar 10) (bCons (bVar 9) (bNil))))))) (cSeq (cAsg (bTup (bCons (bCallM M__law_roll (bCons (bVar 1) (bCons (bCon (.int 2000)) (bNil)))) (bCons (bCallM M__law_roll (bCons (bVar 1) (bCons (bCon (.int 400)) (bNil)))) (bCons (bCallM M__law_roll (bCons (bVar 1) (bCons (bCon (.int 900)) (bNil)))) (bNil))))) (tgTup [tgName 11, tgName 12, tgName 13])) (cSeq (cSet 5 (bFn dMax2 (bCons (bCon (.int 0)) (bCons (bFn dMin2 (bCons (bBin dDiv (bBin dMulA (bVar 11) (bFn dMin2 (bCons (bVar 12) (bCons (bVar 8) (bNil))))) (bCon (.int 1000))) (bCons (bBin dSub (bVar 9) (bVar 13)) (bNil)))) (bNil))))) (cSeq (cSet 6 (bComp [23] (bRng1 (bCons (bBin dAdd (bBin dDiv (bBin dMulA (bVar 11) (bVar 8)) (bCon (.int 1000))) (bCon (.int 1))) (bNil))) (tgName 23) (bYes) (bCallP M__law_met (bCons (bVar 2) (bCons (bVar 11) (bCons (bVar 23) (bNil))))))) (cSeq (cIf (bOrT (bTst (bBin dNeA (bMeth T_own_part "own_part" (bVar 4) (bCons (bVar 11) (bCons (bVar 12) (bCons (bVar 13) (bNil))))) (bVar 5))) (bOrT (bTst (bBin dNeA (bComp [23] (bRng3 (bCons (bCon (.int 0)) (bCons (bFn dLenA (bCons (bVar 6) (bNil))) (bCons (bCon (.int 7)) (bNil))))) (tgName 23) (bYes) (bMeth T_met_part "met_part" (bVar 4) (bCons (bVar 11) (bCons (bVar 23) (bNil))))) (bSl3 (bVar 6) (bNoPart) (bNoPart) (bPart (bCon (.int 7)))))) (bOrT (bTst (bBin dNeA (bMeth T_least_for_all "least_for_all" (bVar 4) (bCons (bVar 11) (bNil))) (bIdxM (bVar 6) (bFn dMaxL (bCons (bVar 6) (bNil)))))) (bTst (bBin dNeA (bComp [19] (bRng1 (bCons (bCon (.int 10)) (bNil))) (tgName 19) (bYes) (bMeth T_owned_share "owned_share" (bVar 4) (bCons (bVar 19) (bNil)))) (bComp [19] (bRng1 (bCons (bCon (.int 10)) (bNil))) (tgName 19) (bYes) (bBin dIxA (bComp [21, 23] (bItemsA (bVar 10)) (tgTup [tgName 21, tgName 23]) (bTst (bBin dLe (bVar 21) (bVar 19))) (bVar 23)) (bNeg (bCon (.int 1)))))))))) (cRet (bCon (.bl false))) (cNop)) (cSeq (cAsg (bTup (bCons (bMake "Pot" M_Pot___init__ (bCons (bVar 4) (bNil))) (bCons (bDctM [(.inr "own", bCon (.int 0)), (.inr "house", bCon (.int 0)), (.inr "laid", bCon (.int 0)), (.inr "years", bCon (.int 0))]) (bNil)))) (tgTup [tgName 14, tgName 15])) (cSeq (cFor (bRng1 (bCons (bCallM M__law_roll (bCons (bVar 1) (bCons (bCon (.int 16)) (bNil)))) (bNil))) (tgName 7) (cSeq (cAsg (bTup (bCons (bCallM M__law_roll (bCons (bVar 1) (bCons (bCon (.int 10)) (bNil)))) (bCons (bCallM M__law_roll (bCons (bVar 1) (bCons (bCon (.int 2000)) (bNil)))) (bCons (bCallM M__law_roll (bCons (bVar 1) (bCons (bCon (.int 400)) (bNil)))) (bCons (bBin dSub (bCallM M__law_roll (bCons (bVar 1) (bCons (bCon (.int 2000)) (bNil)))) (bCon (.int 700))) (bCons (bCallM M__law_roll (bCons (bVar 1) (bCons (bCon (.int 300)) (bNil)))) (bNil))))))) (tgTup [tgName 24, tgName 11, tgName 12, tgName 18, tgName 25])) (cSeq (cIf (bTst (bBin dLt (bVar 24) (bCon (.int 4)))) (cSeq (cSet 26 (bFn dMax2 (bCons (bCon (.int 0)) (bCons (bFn dMin2 (bCons (bBin dDiv (bBin dMulA (bVar 11) (bFn dMin2 (bCons (bVar 12) (bCons (bVar 8) (bNil))))) (bCon (.int 1000))) (bCons (bBin dSub (bVar 9) (bBin dIxA (bVar 15) (bCon (.str "laid")))) (bNil)))) (bNil))))) (cSeq (cSet 27 (bCallP M__law_met (bCons (bVar 2) (bCons (bVar 11) (bCons (bVar 26) (bNil)))))) (cSeq (cExp (bUpd (bVar 15) (bDisp [(.inr "own", bBin dAdd (bBin dIxA (bVar 15) (bCon (.str "own"))) (bVar 26)), (.inr "laid", bBin dAdd (bBin dIxA (bVar 15) (bCon (.str "laid"))) (bVar 26)), (.inr "house", bBin dAdd (bBin dIxA (bVar 15) (bCon (.str "house"))) (bVar 27))]))) (cSet 28 (bBin dEqA (bMeth T_pay_in "pay_in" (bVar 14) (bCons (bVar 11) (bCons (bVar 12) (bNil)))) (bTup (bCons (bVar 26) (bCons (bVar 27) (bNil))))))))) (cIf (bTst (bBin dLt (bVar 24) (bCon (.int 6)))) (cSeq (cPar2 23 29 (bCons (bBin dDiv (bBin dMulA (bBin dIxA (bVar 15) (bCon (.str "own"))) (bVar 18)) (bCon (.int 10000))) (bCons (bBin dDiv (bBin dMulA (bBin dIxA (bVar 15) (bCon (.str "house"))) (bVar 18)) (bCon (.int 10000))) (bNil)))) (cSeq (cExp (bUpd (bVar 15) (bDisp [(.inr "own", bBin dAdd (bBin dIxA (bVar 15) (bCon (.str "own"))) (bVar 23)), (.inr "house", bBin dAdd (bBin dIxA (bVar 15) (bCon (.str "house"))) (bVar 29))]))) (cSet 28 (bBin dEqA (bMeth T_grow_by "grow_by" (bVar 14) (bCons (bVar 18) (bNil))) (bBin dAdd (bVar 23) (bVar 29)))))) (cIf (bTst (bBin dEqA (bVar 24) (bCon (.int 6)))) (cSeq (cExp (bUpd (bVar 15) (bDisp [(.inr "laid", bCon (.int 0)), (.inr "years", bBin dAdd (bBin dIxA (bVar 15) (bCon (.str "years"))) (bCon (.int 1)))]))) (cSet 28 (bBin dIsN (bMeth T_begin_year "begin_year" (bVar 14) bNil) (bCon .non)))) (cIf (bTst (bBin dLt (bVar 24) (bCon (.int 9)))) (cSeq (cSet 30 (bChain dLt dLe (bCon (.int 0)) (bVar 25) (bBin dIxA (bVar 15) (bCon (.str "own"))))) (cSeq (cExp (bUpd (bVar 15) (bIf (bTru (bVar 30)) (bDisp [(.inr "own", bBin dSub (bBin dIxA (bVar 15) (bCon (.str "own"))) (bVar 25))]) (bDct0)))) (cSet 28 (bBin dEqA (bBin dIsN (bTold told_ret told_en (bMeth T_take_out "take_out" (bVar 14) (bCons (bVar 25) (bNil)))) (bCon .non)) (bVar 30))))) (cSeq (cSet 31 (bBin dAdd (bBin dIxA (bVar 15) (bCon (.str "own"))) (bBin dDiv (bBin dMulA (bBin dIxA (bVar 15) (bCon (.str "house"))) (bBin dIxA (bComp [21, 23] (bItemsA (bVar 10)) (tgTup [tgName 21, tgName 23]) (bTst (bBin dLe (bVar 21) (bBin dIxA (bVar 15) (bCon (.str "years"))))) (bVar 23)) (bNeg (bCon (.int 1))))) (bCon (.int 1000))))) (cSeq (cSet 28 (bAnd (bBin dEqA (bMeth T_owned_now "owned_now" (bVar 14) bNil) (bVar 31)) (bBin dEqA (bMeth T_leave_now "leave_now" (bVar 14) bNil) (bTup (bCons (bVar 31) (bCons (bBin dSub (bBin dAdd (bBin dIxA (bVar 15) (bCon (.str "own"))) (bBin dIxA (bVar 15) (bCon (.str "house")))) (bVar 31)) (bNil))))))) (cExp (bUpd (bVar 15) (bDisp [(.inr "own", bCon (.int 0)), (.inr "house", bCon (.int 0))]))))))))) (cSeq (cIf (bNotT (bTru (bVar 28))) (cRet (bCon (.bl false))) (cNop)) (cIf (bTst (bBin dNeA (bTup (bCons (bFld C_own "own" (bVar 14)) (bCons (bFld C_house "house" (bVar 14)) (bCons (bFld C_laid "laid" (bVar 14)) (bCons (bFld C_years "years" (bVar 14)) (bNil)))))) (bTup (bCons (bBin dIxA (bVar 15) (bCon (.str "own"))) (bCons (bBin dIxA (bVar 15) (bCon (.str "house"))) (bCons (bBin dIxA (bVar 15) (bCon (.str "laid"))) (bCons (bBin dIxA (bVar 15) (bCon (.str "years"))) (bNil)))))))) (cRet (bCon (.bl false))) (cNop)))))) (cSeq (cAsg (bTup (bCons (bCallM M__law_roll (bCons (bVar 1) (bCons (bCon (.int 500)) (bNil)))) (bCons (bCallM M__law_roll (bCons (bVar 1) (bCons (bCon (.int 90)) (bNil)))) (bCons (bCallM M__law_roll (bCons (bVar 1) (bCons (bCon (.int 900)) (bNil)))) (bCons (bBin dAdd (bCon (.int 1)) (bCallM M__law_roll (bCons (bVar 1) (bCons (bCon (.int 12)) (bNil))))) (bCons (bCallM M__law_roll (bCons (bVar 1) (bCons (bCon (.int 3000)) (bNil)))) (bNil))))))) (tgTup [tgName 16, tgName 17, tgName 18, tgName 19, tgName 20])) (cSeq (cPar2 21 22 (bCons (bCallP M_least_each (bCons (bVar 16) (bCons (bVar 18) (bCons (bVar 19) (bCons (bVar 20) (bNil)))))) (bCons (bCallP M_paid_for_years (bCons (bVar 20) (bCons (bVar 18) (bCons (bVar 19) (bNil))))) (bNil)))) (cSeq (cIf (bOrT (bTst (bBin dNeA (bCallP M_grown_money (bCons (bVar 16) (bCons (bVar 17) (bCons (bVar 18) (bCons (bVar 19) (bNil)))))) (bCallP M__law_grown (bCons (bVar 16) (bCons (bVar 17) (bCons (bVar 18) (bCons (bVar 19) (bNil)))))))) (bOrT (bTst (bBin dLt (bCallP M__law_grown (bCons (bVar 16) (bCons (bVar 21) (bCons (bVar 18) (bCons (bVar 19) (bNil)))))) (bVar 20))) (bAndT (bTst (bBin dGt (bVar 21) (bCon (.int 0)))) (bTst (bBin dGe (bCallP M__law_grown (bCons (bVar 16) (bCons (bBin dSub (bVar 21) (bCon (.int 1))) (bCons (bVar 18) (bCons (bVar 19) (bNil)))))) (bVar 20)))))) (cRet (bCon (.bl false))) (cNop)) (cIf (bOrT (bTst (bBin dLt (bCallP M__law_left (bCons (bVar 20) (bCons (bVar 22) (bCons (bVar 18) (bCons (bVar 19) (bNil)))))) (bVar 19))) (bOrT (bTst (bBin dGe (bCallP M__law_left (bCons (bVar 20) (bCons (bBin dAdd (bVar 22) (bCon (.int 1))) (bCons (bVar 18) (bCons (bVar 19) (bNil)))))) (bVar 19))) (bOrT (bTst (bBin dNeA (bCallP M_years_it_lasts (bCons (bVar 20) (bCons (bBin dAdd (bCon (.int 1)) (bVar 17)) (bCons (bVar 18) (bNil))))) (bCallP M__law_left (bCons (bVar 20) (bCons (bBin dAdd (bCon (.int 1)) (bVar 17)) (bCons (bVar 18) (bCons (bCon (.int 80)) (bNil)))))))) (bTst (bBin dNeA (bCallP M_does_last (bCons (bVar 20) (bCons (bVar 17) (bCons (bVar 18) (bCons (bVar 19) (bNil)))))) (bBin dGe (bCallP M__law_left (bCons (bVar 20) (bCons (bVar 17) (bCons (bVar 18) (bCons (bVar 19) (bNil)))))) (bVar 19))))))) (cRet (bCon (.bl false))) (cNop)))))))))))))))) (cRet (bCall0 M__law_plain))
def M_law : FnS := fnS 32 B_law
theorem ok_law {g : Gb} (F : Facts g) : FnC g 9 "law" s_law ["script"] M_law := by
  obtain ⟨f, c, fd, h1, h2, PP, TB, hmT, hu⟩ := F.f_law
  obtain ⟨ga, ca, fdt, TF⟩ := F.told
  refine ⟨f, c, fd, h1, h2, ?_⟩
  exact fn_okQ (k := 8) (fun _ _ _ _ _ _ => False) h1 sc_law (h1.binds fun _ _ _ _ _ _ us hl => match us, hl with | [_], _ => rfl) fun A outer s H E av =>
    dss_cons (ds_for (vs := [1]) (di_sqA (de_callM (ok__law_rounds F) (by decide) (ha := da_cons (de_var 0) (da_cons (de_int) (da_nil))) (hlen := (bCons_len (bCons_len bNil_len))))) (dg_name 1) (dss_cons (ds_asg (vs := [8, 9, 10]) (de_tup (da_cons (de_callM (ok__law_roll F) (by decide) (ha := da_cons (de_var 1) (da_cons (de_int) (da_nil))) (hlen := (bCons_len (bCons_len bNil_len)))) (da_cons (de_callM (ok__law_roll F) (by decide) (ha := da_cons (de_var 1) (da_cons (de_int) (da_nil))) (hlen := (bCons_len (bCons_len bNil_len)))) (da_cons (de_lst (da_cons (de_tup (da_cons (de_int) (da_cons (de_callM (ok__law_roll F) (by decide) (ha := da_cons (de_var 1) (da_cons (de_int) (da_nil))) (hlen := (bCons_len (bCons_len bNil_len)))) (da_nil)))) (da_nil))) (da_nil))))) (dg_tup (dgs_cons (dg_name 8) (dgs_cons (dg_name 9) (dgs_cons (dg_name 10) (dgs_nil)))))) (dss_cons (ds_set 2 (de_comp [("k", 3)] (di_rng1 F.n_range (da_cons (de_callM (ok__law_roll F) (by decide) (ha := da_cons (de_var 1) (da_cons (de_int) (da_nil))) (hlen := (bCons_len (bCons_len bNil_len)))) (da_nil))) (by change blkC N_law (defScope s_law) _ _ = true; decide +kernel) (fun Λ' h5 s H C cl fp => dg_name 3) (fun Λ' h5 s H C cl fp => dts_nil) (fun Λ' h5 s H C cl fp => de_tup (da_cons (de_callM (ok__law_roll F) (by decide) (ha := da_cons (de_var 1) (da_cons (de_int) (da_nil))) (hlen := (bCons_len (bCons_len bNil_len)))) (da_cons (de_callM (ok__law_roll F) (by decide) (ha := da_cons (de_var 1) (da_cons (de_int) (da_nil))) (hlen := (bCons_len (bCons_len bNil_len)))) (da_nil)))))) (dss_cons (ds_for (vs := [3]) (di_rng1 F.n_range (da_cons (de_callM (ok__law_roll F) (by decide) (ha := da_cons (de_var 1) (da_cons (de_int) (da_nil))) (hlen := (bCons_len (bCons_len bNil_len)))) (da_nil))) (dg_name 3) (dss_one (ds_set 10 (de_bin dop_add (de_var 10) (de_lst (da_cons (de_tup (da_cons (de_bin dop_add (de_bin dop_add (de_ixA (de_ixA (de_var 10) (de_neg (de_int))) (de_int)) (de_int)) (de_callM (ok__law_roll F) (by decide) (ha := da_cons (de_var 1) (da_cons (de_int) (da_nil))) (hlen := (bCons_len (bCons_len bNil_len))))) (da_cons (de_bfn boot_min dc_min2 F.n_min (da_cons (de_int) (da_cons (de_bin dop_add (de_ixA (de_ixA (de_var 10) (de_neg (de_int))) (de_int)) (de_callM (ok__law_roll F) (by decide) (ha := da_cons (de_var 1) (da_cons (de_int) (da_nil))) (hlen := (bCons_len (bCons_len bNil_len))))) (da_nil)))) (da_nil)))) (da_nil))))))) (dss_cons (ds_set 4 (de_make (ok_Plan___init__ F) (by decide) (da_cons (de_var 8) (da_cons (de_var 2) (da_cons (de_var 10) (da_cons (de_var 9) (da_nil))))) (bCons_len (bCons_len (bCons_len (bCons_len bNil_len)))))) (dss_cons (ds_asg (vs := [11, 12, 13]) (de_tup (da_cons (de_callM (ok__law_roll F) (by decide) (ha := da_cons (de_var 1) (da_cons (de_int) (da_nil))) (hlen := (bCons_len (bCons_len bNil_len)))) (da_cons (de_callM (ok__law_roll F) (by decide) (ha := da_cons (de_var 1) (da_cons (de_int) (da_nil))) (hlen := (bCons_len (bCons_len bNil_len)))) (da_cons (de_callM (ok__law_roll F) (by decide) (ha := da_cons (de_var 1) (da_cons (de_int) (da_nil))) (hlen := (bCons_len (bCons_len bNil_len)))) (da_nil))))) (dg_tup (dgs_cons (dg_name 11) (dgs_cons (dg_name 12) (dgs_cons (dg_name 13) (dgs_nil)))))) (dss_cons (ds_set 5 (de_bfn boot_max dc_max2 F.n_max (da_cons (de_int) (da_cons (de_bfn boot_min dc_min2 F.n_min (da_cons (de_bin dop_div (de_bin dop_mulA (de_var 11) (de_bfn boot_min dc_min2 F.n_min (da_cons (de_var 12) (da_cons (de_var 8) (da_nil))))) (de_int)) (da_cons (de_bin dop_sub (de_var 9) (de_var 13)) (da_nil)))) (da_nil))))) (dss_cons (ds_setLc 6 [("one", 23)] (di_rng1 F.n_range (da_cons (de_bin dop_add (de_bin dop_div (de_bin dop_mulA (de_var 11) (de_var 8)) (de_int)) (de_int)) (da_nil))) (by change blkC N_law (defScope s_law) _ _ = true; decide +kernel) (fun Λ' h6 s H C cl fp => dg_name 23) (fun Λ' h6 s H C cl fp => dts_nil) (fun Λ' h6 s H C cl fp => de_callP (ok__law_met F) (by decide) (ha := da_cons (de_var 2) (da_cons (de_var 11) (da_cons (de_var 23) (da_nil)))) (hlen := (bCons_len (bCons_len (bCons_len bNil_len))))) (hsw := sw_true rfl rfl rfl (by decide +kernel))) (dss_cons (ds_if (dt_w (dw_or (dt_cmp dop_neA (de_meth (by decide) (mt_own_part F) (de_var 4) (da_cons (de_var 11) (da_cons (de_var 12) (da_cons (de_var 13) (da_nil)))) (bCons_len (bCons_len (bCons_len bNil_len)))) (de_var 5)) (dw_or (dt_cmp dop_neA (de_comp [("one", 23)] (di_rng3 F.n_range (da_cons (de_int) (da_cons (de_bfn boot_len dc_lenA F.n_len (da_cons (de_var 6) (da_nil))) (da_cons (de_int) (da_nil))))) (by change blkC N_law (defScope s_law) _ _ = true; decide +kernel) (fun Λ' h7 s H C cl fp => dg_name 23) (fun Λ' h7 s H C cl fp => dts_nil) (fun Λ' h7 s H C cl fp => de_meth (by decide) (mt_met_part F) (de_var 4) (da_cons (de_var 11) (da_cons (de_var 23) (da_nil))) (bCons_len (bCons_len bNil_len)))) (de_sl3 (de_var 6) (do_none) (do_none) (do_some (de_int)))) (dw_or (dt_cmp dop_neA (de_meth (by decide) (mt_least_for_all F) (de_var 4) (da_cons (de_var 11) (da_nil)) (bCons_len bNil_len)) (de_index (de_var 6) (de_bfn boot_max dc_maxL F.n_max (da_cons (de_var 6) (da_nil))))) (dw_or1 (dt_cmp dop_neA (de_comp [("years", 19)] (di_rng1 F.n_range (da_cons (de_int) (da_nil))) (by change blkC N_law (defScope s_law) _ _ = true; decide +kernel) (fun Λ' h8 s H C cl fp => dg_name 19) (fun Λ' h8 s H C cl fp => dts_nil) (fun Λ' h8 s H C cl fp => de_meth (by decide) (mt_owned_share F) (de_var 4) (da_cons (de_var 19) (da_nil)) (bCons_len bNil_len))) (de_comp [("years", 19)] (di_rng1 F.n_range (da_cons (de_int) (da_nil))) (by change blkC N_law (defScope s_law) _ _ = true; decide +kernel) (fun Λ' h9 s H C cl fp => dg_name 19) (fun Λ' h9 s H C cl fp => dts_nil) (fun Λ' h9 s H C cl fp => de_ixA (de_comp [("least", 21), ("one", 23)] (di_sqA (de_var 10)) (by with_unfolding_all rfl) (fun Λ' h10 s H C cl fp => dg_tup (dgs_cons (dg_name 21) (dgs_cons (dg_name 23) (dgs_nil)))) (fun Λ' h10 s H C cl fp => dts_one (dt_cmp dop_le (de_var 21) (de_var 19))) (fun Λ' h10 s H C cl fp => de_var 23)) (de_neg (de_int)))))))))) (dss_one (ds_ret (de_bl))) (dss_nil)) (dss_cons (ds_asg (vs := [14, 15]) (de_tup (da_cons (de_make (ok_Pot___init__ F) (by decide) (da_cons (de_var 4) (da_nil)) (bCons_len bNil_len)) (da_cons (de_dctM (dps_str (fun _ h14 => de_int) (dps_str (fun _ h13 => de_int) (dps_str (fun _ h12 => de_int) (dps_str (fun _ h11 => de_int) (dps_nil)))))) (da_nil)))) (dg_tup (dgs_cons (dg_name 14) (dgs_cons (dg_name 15) (dgs_nil))))) (dss_cons (ds_for (vs := [7]) (di_rng1 F.n_range (da_cons (de_callM (ok__law_roll F) (by decide) (ha := da_cons (de_var 1) (da_cons (de_int) (da_nil))) (hlen := (bCons_len (bCons_len bNil_len)))) (da_nil))) (dg_name 7) (dss_cons (ds_asg (vs := [24, 11, 12, 18, 25]) (de_tup (da_cons (de_callM (ok__law_roll F) (by decide) (ha := da_cons (de_var 1) (da_cons (de_int) (da_nil))) (hlen := (bCons_len (bCons_len bNil_len)))) (da_cons (de_callM (ok__law_roll F) (by decide) (ha := da_cons (de_var 1) (da_cons (de_int) (da_nil))) (hlen := (bCons_len (bCons_len bNil_len)))) (da_cons (de_callM (ok__law_roll F) (by decide) (ha := da_cons (de_var 1) (da_cons (de_int) (da_nil))) (hlen := (bCons_len (bCons_len bNil_len)))) (da_cons (de_bin dop_sub (de_callM (ok__law_roll F) (by decide) (ha := da_cons (de_var 1) (da_cons (de_int) (da_nil))) (hlen := (bCons_len (bCons_len bNil_len)))) (de_int)) (da_cons (de_callM (ok__law_roll F) (by decide) (ha := da_cons (de_var 1) (da_cons (de_int) (da_nil))) (hlen := (bCons_len (bCons_len bNil_len)))) (da_nil))))))) (dg_tup (dgs_cons (dg_name 24) (dgs_cons (dg_name 11) (dgs_cons (dg_name 12) (dgs_cons (dg_name 18) (dgs_cons (dg_name 25) (dgs_nil)))))))) (dss_cons (ds_if (dt_cmp dop_lt (de_var 24) (de_int)) (dss_cons (ds_set 26 (de_bfn boot_max dc_max2 F.n_max (da_cons (de_int) (da_cons (de_bfn boot_min dc_min2 F.n_min (da_cons (de_bin dop_div (de_bin dop_mulA (de_var 11) (de_bfn boot_min dc_min2 F.n_min (da_cons (de_var 12) (da_cons (de_var 8) (da_nil))))) (de_int)) (da_cons (de_bin dop_sub (de_var 9) (de_ixA (de_var 15) (de_str))) (da_nil)))) (da_nil))))) (dss_cons (ds_set 27 (de_callP (ok__law_met F) (by decide) (ha := da_cons (de_var 2) (da_cons (de_var 11) (da_cons (de_var 26) (da_nil)))) (hlen := (bCons_len (bCons_len (bCons_len bNil_len)))))) (dss_cons (ds_expr (de_upd (de_var 15) (de_disp (dps_str (fun _ h17 => de_bin dop_add (de_ixA (de_var 15) (de_str)) (de_var 26)) (dps_str (fun _ h16 => de_bin dop_add (de_ixA (de_var 15) (de_str)) (de_var 26)) (dps_str (fun _ h15 => de_bin dop_add (de_ixA (de_var 15) (de_str)) (de_var 27)) (dps_nil))))))) (dss_one (ds_set 28 (de_cmp dop_eqA (de_meth (by decide) (mt_pay_in F) (de_var 14) (da_cons (de_var 11) (da_cons (de_var 12) (da_nil))) (bCons_len (bCons_len bNil_len))) (de_tup (da_cons (de_var 26) (da_cons (de_var 27) (da_nil)))))))))) (dss_one (ds_if (dt_cmp dop_lt (de_var 24) (de_int)) (dss_cons (ds_par2 23 29 (da_cons (de_bin dop_div (de_bin dop_mulA (de_ixA (de_var 15) (de_str)) (de_var 18)) (de_int)) (da_cons (de_bin dop_div (de_bin dop_mulA (de_ixA (de_var 15) (de_str)) (de_var 18)) (de_int)) (da_nil)))) (dss_cons (ds_expr (de_upd (de_var 15) (de_disp (dps_str (fun _ h19 => de_bin dop_add (de_ixA (de_var 15) (de_str)) (de_var 23)) (dps_str (fun _ h18 => de_bin dop_add (de_ixA (de_var 15) (de_str)) (de_var 29)) (dps_nil)))))) (dss_one (ds_set 28 (de_cmp dop_eqA (de_meth (by decide) (mt_grow_by F) (de_var 14) (da_cons (de_var 18) (da_nil)) (bCons_len bNil_len)) (de_bin dop_add (de_var 23) (de_var 29))))))) (dss_one (ds_if (dt_cmp dop_eqA (de_var 24) (de_int)) (dss_cons (ds_expr (de_upd (de_var 15) (de_disp (dps_str (fun _ h21 => de_int) (dps_str (fun _ h20 => de_bin dop_add (de_ixA (de_var 15) (de_str)) (de_int)) (dps_nil)))))) (dss_one (ds_set 28 (de_cmp dop_isN (de_meth0 (by decide) (mt_begin_year F) (de_var 14)) (de_non))))) (dss_one (ds_if (dt_cmp dop_lt (de_var 24) (de_int)) (dss_cons (ds_set 30 (de_chain dop_lt dop_le (de_int) (de_var 25) (de_ixA (de_var 15) (de_str)))) (dss_cons (ds_expr (de_upd (de_var 15) (de_if (dt_tru (de_var 30)) (de_disp (dps_str (fun _ h22 => de_bin dop_sub (de_ixA (de_var 15) (de_str)) (de_var 25)) (dps_nil))) (de_dct0)))) (dss_one (ds_set 28 (de_cmp dop_eqA (de_cmp dop_isN (de_told (k' := 1) TF TB hmT hu (by decide) (by change lamSB (defScope s_law) _ = true; decide +kernel) (fun _ _ _ _ _ _ _ => de_meth (by decide) (mt_take_out F) (de_var 14) (da_cons (de_var 25) (da_nil)) (bCons_len bNil_len))) (de_non)) (de_var 30)))))) (dss_cons (ds_set 31 (de_bin dop_add (de_ixA (de_var 15) (de_str)) (de_bin dop_div (de_bin dop_mulA (de_ixA (de_var 15) (de_str)) (de_ixA (de_comp [("least", 21), ("one", 23)] (di_sqA (de_var 10)) (by change blkC N_law (defScope s_law) _ _ = true; decide +kernel) (fun Λ' h23 s H C cl fp => dg_tup (dgs_cons (dg_name 21) (dgs_cons (dg_name 23) (dgs_nil)))) (fun Λ' h23 s H C cl fp => dts_one (dt_cmp dop_le (de_var 21) (de_ixA (de_var 15) (de_str)))) (fun Λ' h23 s H C cl fp => de_var 23)) (de_neg (de_int)))) (de_int)))) (dss_cons (ds_set 28 (de_and (de_cmp dop_eqA (de_meth0 (by decide) (mt_owned_now F) (de_var 14)) (de_var 31)) (de_one (de_cmp dop_eqA (de_meth0 (by decide) (mt_leave_now F) (de_var 14)) (de_tup (da_cons (de_var 31) (da_cons (de_bin dop_sub (de_bin dop_add (de_ixA (de_var 15) (de_str)) (de_ixA (de_var 15) (de_str))) (de_var 31)) (da_nil)))))))) (dss_one (ds_expr (de_upd (de_var 15) (de_disp (dps_str (fun _ h25 => de_int) (dps_str (fun _ h24 => de_int) (dps_nil)))))))))))))))) (dss_cons (ds_if (dt_not (dt_tru (de_var 28))) (dss_one (ds_ret (de_bl))) (dss_nil)) (dss_one (ds_if (dt_cmp dop_neA (de_tup (da_cons (de_fld (cf_own F) (de_var 14)) (da_cons (de_fld (cf_house F) (de_var 14)) (da_cons (de_fld (cf_laid F) (de_var 14)) (da_cons (de_fld (cf_years F) (de_var 14)) (da_nil)))))) (de_tup (da_cons (de_ixA (de_var 15) (de_str)) (da_cons (de_ixA (de_var 15) (de_str)) (da_cons (de_ixA (de_var 15) (de_str)) (da_cons (de_ixA (de_var 15) (de_str)) (da_nil))))))) (dss_one (ds_ret (de_bl))) (dss_nil))))))) (dss_cons (ds_asg (vs := [16, 17, 18, 19, 20]) (de_tup (da_cons (de_callM (ok__law_roll F) (by decide) (ha := da_cons (de_var 1) (da_cons (de_int) (da_nil))) (hlen := (bCons_len (bCons_len bNil_len)))) (da_cons (de_callM (ok__law_roll F) (by decide) (ha := da_cons (de_var 1) (da_cons (de_int) (da_nil))) (hlen := (bCons_len (bCons_len bNil_len)))) (da_cons (de_callM (ok__law_roll F) (by decide) (ha := da_cons (de_var 1) (da_cons (de_int) (da_nil))) (hlen := (bCons_len (bCons_len bNil_len)))) (da_cons (de_bin dop_add (de_int) (de_callM (ok__law_roll F) (by decide) (ha := da_cons (de_var 1) (da_cons (de_int) (da_nil))) (hlen := (bCons_len (bCons_len bNil_len))))) (da_cons (de_callM (ok__law_roll F) (by decide) (ha := da_cons (de_var 1) (da_cons (de_int) (da_nil))) (hlen := (bCons_len (bCons_len bNil_len)))) (da_nil))))))) (dg_tup (dgs_cons (dg_name 16) (dgs_cons (dg_name 17) (dgs_cons (dg_name 18) (dgs_cons (dg_name 19) (dgs_cons (dg_name 20) (dgs_nil)))))))) (dss_cons (ds_par2 21 22 (da_cons (de_callP (ok_least_each F) (by decide) (ha := da_cons (de_var 16) (da_cons (de_var 18) (da_cons (de_var 19) (da_cons (de_var 20) (da_nil))))) (hlen := (bCons_len (bCons_len (bCons_len (bCons_len bNil_len)))))) (da_cons (de_callP (ok_paid_for_years F) (by decide) (ha := da_cons (de_var 20) (da_cons (de_var 18) (da_cons (de_var 19) (da_nil)))) (hlen := (bCons_len (bCons_len (bCons_len bNil_len))))) (da_nil)))) (dss_cons (ds_if (dt_w (dw_or (dt_cmp dop_neA (de_callP (ok_grown_money F) (by decide) (ha := da_cons (de_var 16) (da_cons (de_var 17) (da_cons (de_var 18) (da_cons (de_var 19) (da_nil))))) (hlen := (bCons_len (bCons_len (bCons_len (bCons_len bNil_len)))))) (de_callP (ok__law_grown F) (by decide) (ha := da_cons (de_var 16) (da_cons (de_var 17) (da_cons (de_var 18) (da_cons (de_var 19) (da_nil))))) (hlen := (bCons_len (bCons_len (bCons_len (bCons_len bNil_len))))))) (dw_or (dt_cmp dop_lt (de_callP (ok__law_grown F) (by decide) (ha := da_cons (de_var 16) (da_cons (de_var 21) (da_cons (de_var 18) (da_cons (de_var 19) (da_nil))))) (hlen := (bCons_len (bCons_len (bCons_len (bCons_len bNil_len)))))) (de_var 20)) (dw_or1 (dt_w (dw_and (dt_cmp dop_gt (de_var 21) (de_int)) (dw_and1 (dt_cmp dop_ge (de_callP (ok__law_grown F) (by decide) (ha := da_cons (de_var 16) (da_cons (de_bin dop_sub (de_var 21) (de_int)) (da_cons (de_var 18) (da_cons (de_var 19) (da_nil))))) (hlen := (bCons_len (bCons_len (bCons_len (bCons_len bNil_len)))))) (de_var 20))))))))) (dss_one (ds_ret (de_bl))) (dss_nil)) (dss_one (ds_if (dt_w (dw_or (dt_cmp dop_lt (de_callP (ok__law_left F) (by decide) (ha := da_cons (de_var 20) (da_cons (de_var 22) (da_cons (de_var 18) (da_cons (de_var 19) (da_nil))))) (hlen := (bCons_len (bCons_len (bCons_len (bCons_len bNil_len)))))) (de_var 19)) (dw_or (dt_cmp dop_ge (de_callP (ok__law_left F) (by decide) (ha := da_cons (de_var 20) (da_cons (de_bin dop_add (de_var 22) (de_int)) (da_cons (de_var 18) (da_cons (de_var 19) (da_nil))))) (hlen := (bCons_len (bCons_len (bCons_len (bCons_len bNil_len)))))) (de_var 19)) (dw_or (dt_cmp dop_neA (de_callP (ok_years_it_lasts F) (by decide) (ha := da_cons (de_var 20) (da_cons (de_bin dop_add (de_int) (de_var 17)) (da_cons (de_var 18) (da_nil)))) (hlen := (bCons_len (bCons_len (bCons_len bNil_len))))) (de_callP (ok__law_left F) (by decide) (ha := da_cons (de_var 20) (da_cons (de_bin dop_add (de_int) (de_var 17)) (da_cons (de_var 18) (da_cons (de_int) (da_nil))))) (hlen := (bCons_len (bCons_len (bCons_len (bCons_len bNil_len))))))) (dw_or1 (dt_cmp dop_neA (de_callP (ok_does_last F) (by decide) (ha := da_cons (de_var 20) (da_cons (de_var 17) (da_cons (de_var 18) (da_cons (de_var 19) (da_nil))))) (hlen := (bCons_len (bCons_len (bCons_len (bCons_len bNil_len)))))) (de_cmp dop_ge (de_callP (ok__law_left F) (by decide) (ha := da_cons (de_var 20) (da_cons (de_var 17) (da_cons (de_var 18) (da_cons (de_var 19) (da_nil))))) (hlen := (bCons_len (bCons_len (bCons_len (bCons_len bNil_len)))))) (de_var 19)))))))) (dss_one (ds_ret (de_bl))) (dss_nil))))))))))))))))) (dss_one (ds_ret (de_call0 (ok__law_plain F) (by decide))))
end K10

set_option linter.all false
set_option maxRecDepth 100000
set_option maxHeartbeats 4000000
namespace K10
open PySem Mi L2 Mw
theorem roll_eq : M__law_roll = hRoll := rfl
theorem rounds_eq : M__law_rounds = hRounds := rfl
theorem mul_small {i j : Int} (h : -1000000 < j ∧ j < 1000000) : mulOk i j = true := by
  unfold mulOk
  simp only [Bool.or_eq_true, Bool.and_eq_true, decide_eq_true_eq]
  exact .inr ⟨by omega, by omega⟩
theorem div_k (x : Int) : divOk x 10000 = true := by simp [divOk]
theorem div_k1 (x : Int) : divOk x 1000 = true := by simp [divOk]
theorem min4_nn {μ : Sto} {a b c d : Int} (h : 0 ≤ a ∧ 0 ≤ b ∧ 0 ≤ c ∧ 0 ≤ d) : ∃ m, 0 ≤ m ∧ dMin4 μ [.int a, .int b, .int c, .int d] = some (.int m) := by
  obtain ⟨h1, h2, h3, h4⟩ := h
  have : minI [a, b, c, d] = some ([b, c, d].foldl (fun a b => if b < a then b else a) a) := rfl
  refine ⟨_, ?_, rfl⟩
  obtain ⟨m1, _⟩ := minI_of this
  simp only [List.mem_cons, List.not_mem_nil, or_false] at m1
  omega
theorem grown_s {x e p n : Int} (h : 0 ≤ x ∧ 0 ≤ e ∧ 0 ≤ p ∧ p < 1000 ∧ 0 ≤ n ∧ n ≤ 80) : M_grown_money [.int x, .int e, .int p, .int n] [] = some (.ok (.int (grN p e n.toNat x)) []) := by
  obtain ⟨hx, he, hp, hp2, hn, hn2⟩ := h
  obtain ⟨m, hm, em⟩ := min4_nn (μ := []) ⟨hx, he, hp, hn⟩
  have h0 : ¬ m < 0 := by omega
  have h1 : ¬ 80 < n := by omega
  obtain ⟨ρ', μ', e1, hμ, y, o, hρ, hy⟩ := rng_run (t := tgName 5) (b := cAug 4 dIAdd (bBin dAdd (bBin dDiv (bBin dMulA (bVar 4) (bVar 2)) (bCon (.int 10000))) (bVar 1))) (I := fun i ρ μ => μ = [] ∧ ∃ (y : Int) (o : Option D), ρ = [some (.int x), some (.int e), some (.int p), some (.int n), some (.int y), o] ∧ grN p e (n.toNat - i) y = grN p e n.toNat x) 0 n.toNat
    (fun i ρ μ hi ⟨e0, y, o, eρ, hy⟩ => by
      subst e0 eρ
      refine ⟨_, _, [some (.int x), some (.int e), some (.int p), some (.int n), some (.int (y + (y * p / 10000 + e))), some (.int (0 + (i : Int)))], [], rfl, ?_, rfl, y + (y * p / 10000 + e), _, rfl, ?_⟩
      · have := mul_small (i := y) (j := p) (by omega)
        simp [this, div_k]
      · have e2 : n.toNat - i = (n.toNat - (i + 1)) + 1 := by omega
        rw [e2] at hy
        exact hy) (ρ := [some (.int x), some (.int e), some (.int p), some (.int n), some (.int x), none]) (μ := []) ⟨rfl, x, none, rfl, rfl⟩
  subst hμ hρ
  have hy : y = grN p e n.toNat x := by rw [Nat.sub_self] at hy; exact hy
  have tot : B_grown_money [some (.int x), some (.int e), some (.int p), some (.int n), none, none] [] = some (.rt (.int (grN p e n.toNat x)) []) := by
    unfold B_grown_money
    refine seq_nx (ρ1 := [some (.int x), some (.int e), some (.int p), some (.int n), none, none]) (μ1 := []) ?_ (seq_nx (ρ1 := [some (.int x), some (.int e), some (.int p), some (.int n), some (.int x), none]) (μ1 := []) (by simp) (seq_nx (ρ1 := [some (.int x), some (.int e), some (.int p), some (.int n), some (.int y), o]) (μ1 := []) ?_ (by simp [hy])))
    · simp [em, h0, h1, k_MOST_YEARS]
    · rw [cFor_s, rng1_z (μ := []) (z := n) (by omega) (by simp)]
      exact e1
  unfold M_grown_money
  rw [fnS_s]
  show (match B_grown_money [some (.int x), some (.int e), some (.int p), some (.int n), none, none] [] with
    | some (.nx _ μ') => some (Out.ok D.non μ')
    | some (.rt d μ') => if lamf d = true then some (.ok d μ') else none
    | some (.ex c _ μ') => some (.exc c μ')
    | _ => none) = _
  rw [tot]
  simp [lamf]
theorem lgrown_s {x e p n : Int} (h : 0 ≤ p ∧ p < 1000 ∧ 0 ≤ n ∧ n ≤ 80) : M__law_grown [.int x, .int e, .int p, .int n] [] = some (.ok (.int (grN p e n.toNat x)) []) := by
  obtain ⟨hp, hp2, hn, hn2⟩ := h
  obtain ⟨ρ', μ', e1, hμ, y, o, hρ, hy⟩ := rng_run (t := tgName 5) (b := cSet 4 (bBin dAdd (bBin dAdd (bVar 4) (bBin dDiv (bBin dMulA (bVar 4) (bVar 2)) (bCon (.int 10000)))) (bVar 1))) (I := fun i ρ μ => μ = [] ∧ ∃ (y : Int) (o : Option D), ρ = [some (.int x), some (.int e), some (.int p), some (.int n), some (.int y), o] ∧ grN p e (n.toNat - i) y = grN p e n.toNat x) 0 n.toNat
    (fun i ρ μ hi ⟨e0, y, o, eρ, hy⟩ => by
      subst e0 eρ
      refine ⟨_, _, [some (.int x), some (.int e), some (.int p), some (.int n), some (.int (y + (y * p / 10000 + e))), some (.int (0 + (i : Int)))], [], rfl, ?_, rfl, y + (y * p / 10000 + e), _, rfl, ?_⟩
      · have := mul_small (i := y) (j := p) (by omega)
        have ha : y + y * p / 10000 + e = y + (y * p / 10000 + e) := by omega
        simp [this, div_k, ha]
      · have e2 : n.toNat - i = (n.toNat - (i + 1)) + 1 := by omega
        rw [e2] at hy
        exact hy) (ρ := [some (.int x), some (.int e), some (.int p), some (.int n), some (.int x), none]) (μ := []) ⟨rfl, x, none, rfl, rfl⟩
  subst hμ hρ
  have hy : y = grN p e n.toNat x := by rw [Nat.sub_self] at hy; exact hy
  have tot : B__law_grown [some (.int x), some (.int e), some (.int p), some (.int n), none, none] [] = some (.rt (.int (grN p e n.toNat x)) []) := by
    unfold B__law_grown
    refine seq_nx (ρ1 := [some (.int x), some (.int e), some (.int p), some (.int n), some (.int x), none]) (μ1 := []) (by simp) (seq_nx (ρ1 := [some (.int x), some (.int e), some (.int p), some (.int n), some (.int y), o]) (μ1 := []) ?_ (by simp [hy]))
    rw [cFor_s, rng1_z (μ := []) (z := n) (by omega) (by simp)]
    exact e1
  unfold M__law_grown
  rw [fnS_s]
  show (match B__law_grown [some (.int x), some (.int e), some (.int p), some (.int n), none, none] [] with
    | some (.nx _ μ') => some (Out.ok D.non μ')
    | some (.rt d μ') => if lamf d = true then some (.ok d μ') else none
    | some (.ex c _ μ') => some (.exc c μ')
    | _ => none) = _
  rw [tot]
  simp [lamf]
theorem least_s {x p n goal : Int} (h : 0 ≤ x ∧ 0 ≤ p ∧ p < 1000 ∧ 1 ≤ n ∧ n ≤ 80) (hg : 0 ≤ goal ∧ goal ≤ 1000000) :
    ∃ w, M_least_each [.int x, .int p, .int n, .int goal] [] = some (.ok (.int w) []) ∧ 0 ≤ w ∧ goal ≤ grN p w n.toNat x ∧ (w = 0 ∨ grN p (w - 1) n.toNat x < goal) := by
  obtain ⟨hx, hp, hp2, hn, hn2⟩ := h
  have h0 : ¬ n < 1 := by omega
  have h1 : ¬ goal < 0 := by omega
  have hmx : 1 ≤ mx 1 goal ∧ goal ≤ mx 1 goal ∧ mx 1 goal ≤ 1000000 := by rw [mx_e]; omega
  have hgx : goal ≤ grN p (mx 1 goal) n.toNat x := by
    have := grN_each (parts := p) hp (e := mx 1 goal) (by omega) (n := n.toNat) (by omega) hx
    omega
  obtain ⟨ρ2, μ2, w2, ⟨w, low, o6, hρ2, hμ2, k1, k2, k3⟩⟩ := wl_meas (t := bTst (bBin dGt (bBin dSub (bVar 5) (bVar 4)) (bCon (.int 1)))) (b := cSeq (cSet 6 (bBin dDiv (bBin dAdd (bVar 4) (bVar 5)) (bCon (.int 2)))) (cIf (bTst (bBin dGe (bCallP M_grown_money (bCons (bVar 0) (bCons (bVar 6) (bCons (bVar 1) (bCons (bVar 2) (bNil)))))) (bVar 3))) (cSet 5 (bVar 6)) (cSet 4 (bVar 6))))
    (fun k ρ ν => ∃ (w low : Int) (o6 : Option D), ρ = [some (.int x), some (.int p), some (.int n), some (.int goal), some (.int low), some (.int w), o6] ∧ ν = [] ∧ (-1 ≤ low ∧ low < w ∧ w ≤ 1000000) ∧ goal ≤ grN p w n.toNat x ∧ (low = -1 ∨ grN p low n.toNat x < goal) ∧ w - low ≤ 2 ^ k)
    (fun ρ ν => ∃ (w low : Int) (o6 : Option D), ρ = [some (.int x), some (.int p), some (.int n), some (.int goal), some (.int low), some (.int w), o6] ∧ ν = [] ∧ (-1 ≤ low ∧ low + 1 = w) ∧ goal ≤ grN p w n.toNat x ∧ (low = -1 ∨ grN p low n.toNat x < goal)) (fun k ρ ν ⟨w, low, o6, e, hν, ⟨a1, a2, a3⟩, a4, a5, a6⟩ => by
      subst e hν
      by_cases hc : 1 < w - low
      · refine .inl ⟨[], by simp [hc], ?_⟩
        cases k with
        | zero =>
          have : (2 : Int) ^ 0 = 1 := by decide
          omega
        | succ k =>
          have hm0 : low < (low + w) / 2 ∧ (low + w) / 2 < w := by omega
          have ey := grown_s (x := x) (e := (low + w) / 2) (p := p) (n := n) ⟨hx, by omega, hp, hp2, by omega, hn2⟩
          have hd : divOk (low + w) 2 = true := by simp [divOk]
          have h6 : (2 : Int) ^ (k + 1) = 2 ^ k * 2 := Int.pow_succ 2 k
          by_cases hg' : goal ≤ grN p ((low + w) / 2) n.toNat x
          · exact ⟨k, [some (.int x), some (.int p), some (.int n), some (.int goal), some (.int low), some (.int ((low + w) / 2)), some (.int ((low + w) / 2))], [], Nat.lt_succ_self k, by simp [ey, hd, hg', purs, pur], (low + w) / 2, low, _, rfl, rfl, ⟨a1, hm0.1, by omega⟩, hg', a5, by omega⟩
          · exact ⟨k, [some (.int x), some (.int p), some (.int n), some (.int goal), some (.int ((low + w) / 2)), some (.int w), some (.int ((low + w) / 2))], [], Nat.lt_succ_self k, by simp [ey, hd, hg', purs, pur], w, (low + w) / 2, _, rfl, rfl, ⟨by omega, hm0.2, a3⟩, a4, .inr (by omega), by omega⟩
      · exact .inr ⟨[], by simp [hc], w, low, o6, rfl, rfl, ⟨a1, by omega⟩, a4, a5⟩) 1000 40 (by omega) [some (.int x), some (.int p), some (.int n), some (.int goal), some (.int (-1)), some (.int (mx 1 goal)), none] [] ⟨mx 1 goal, -1, none, rfl, rfl, ⟨by omega, by omega, hmx.2.2⟩, hgx, .inl rfl, by
        have : (2 : Int) ^ 40 = 1099511627776 := by decide
        omega⟩
  subst hρ2 hμ2
  refine ⟨w, ?_, by omega, k2, ?_⟩
  · have tot : B_least_each [some (.int x), some (.int p), some (.int n), some (.int goal), none, none, none] [] = some (.rt (.int w) []) := by
      unfold B_least_each
      refine seq_nx (ρ1 := [some (.int x), some (.int p), some (.int n), some (.int goal), none, none, none]) (μ1 := []) (by simp [h0, h1]) (seq_nx (ρ1 := [some (.int x), some (.int p), some (.int n), some (.int goal), some (.int (-1)), some (.int (mx 1 goal)), none]) (μ1 := []) (by simp [-dMax2_i, dMax2_m]) (seq_nx (ρ1 := [some (.int x), some (.int p), some (.int n), some (.int goal), some (.int low), some (.int w), o6]) (μ1 := []) (by rw [cWhile_s]; exact w2) (by simp)))
    unfold M_least_each
    rw [fnS_s]
    show (match B_least_each [some (.int x), some (.int p), some (.int n), some (.int goal), none, none, none] [] with
      | some (.nx _ μ') => some (Out.ok D.non μ')
      | some (.rt d μ') => if lamf d = true then some (.ok d μ') else none
      | some (.ex c _ μ') => some (.exc c μ')
      | _ => none) = _
    rw [tot]
    simp [lamf]
  · rcases k3 with k3 | k3
    · exact .inl (by omega)
    · have : w - 1 = low := by omega
      rw [this]
      exact .inr k3
end K10

set_option linter.all false
set_option maxRecDepth 100000
set_option maxHeartbeats 4000000
namespace K10
open PySem Mi L2 Mw
theorem cnt_succ (p e : Int) (k : Nat) (l : Int) : cnt p e (k + 1) l = if e ≤ l then 1 + cnt p e k (stp p e l) else 0 := rfl
theorem left_s {m e p n : Int} (h : 0 ≤ p ∧ p < 1000 ∧ 0 ≤ n ∧ n ≤ 100) : M__law_left [.int m, .int e, .int p, .int n] [] = some (.ok (.int (cnt p e n.toNat m)) []) := by
  obtain ⟨hp, hp2, hn, hn2⟩ := h
  obtain ⟨ρ2, μ2, w2, ⟨l, j, hρ, hμ, hq⟩⟩ := wl_meas (t := bAndT (bTst (bBin dLt (bVar 5) (bVar 3))) (bTst (bBin dGe (bVar 4) (bVar 1)))) (b := cSeq (cSet 4 (bBin dAdd (bBin dSub (bVar 4) (bVar 1)) (bBin dDiv (bBin dMulA (bBin dSub (bVar 4) (bVar 1)) (bVar 2)) (bCon (.int 10000))))) (cSet 5 (bBin dAdd (bVar 5) (bCon (.int 1)))))
    (fun k ρ ν => ∃ (l : Int) (j : Nat), ρ = [some (.int m), some (.int e), some (.int p), some (.int n), some (.int l), some (.int j)] ∧ ν = [] ∧ j + k = n.toNat ∧ j + cnt p e k l = cnt p e n.toNat m)
    (fun ρ ν => ∃ (l : Int) (j : Nat), ρ = [some (.int m), some (.int e), some (.int p), some (.int n), some (.int l), some (.int j)] ∧ ν = [] ∧ j = cnt p e n.toNat m) (fun k ρ ν ⟨l, j, e1, e2, e3, e4⟩ => by
      subst e1 e2
      have hd := div_k ((l - e) * p)
      have hm := mul_small (i := l - e) (j := p) (by omega)
      cases k with
      | zero =>
        refine .inr ⟨[], ?_, l, j, rfl, rfl, by simpa [cnt] using e4⟩
        have : ¬ (j : Int) < n := by omega
        simp [this]
      | succ k =>
        have hj : (j : Int) < n := by omega
        by_cases hc : e ≤ l
        · refine .inl ⟨[], by simp [hj, hc], k, [some (.int m), some (.int e), some (.int p), some (.int n), some (.int (stp p e l)), some (.int ((j : Int) + 1))], [], Nat.lt_succ_self k, by simp [hm, hd, stp], stp p e l, j + 1, rfl, rfl, by omega, ?_⟩
          rw [cnt_succ] at e4
          rw [if_pos hc] at e4
          omega
        · refine .inr ⟨[], by simp [hj, hc], l, j, rfl, rfl, ?_⟩
          rw [cnt_succ] at e4
          rw [if_neg hc] at e4
          omega) 1000 n.toNat (by omega) [some (.int m), some (.int e), some (.int p), some (.int n), some (.int m), some (.int 0)] [] ⟨m, 0, rfl, rfl, by omega, by omega⟩
  subst hρ hμ
  have tot : B__law_left [some (.int m), some (.int e), some (.int p), some (.int n), none, none] [] = some (.rt (.int (cnt p e n.toNat m)) []) := by
    unfold B__law_left
    refine seq_nx (ρ1 := [some (.int m), some (.int e), some (.int p), some (.int n), some (.int m), some (.int 0)]) (μ1 := []) (by simp) (seq_nx (by rw [cWhile_s]; exact w2) (by simp [hq]))
  unfold M__law_left
  rw [fnS_s]
  show (match B__law_left [some (.int m), some (.int e), some (.int p), some (.int n), none, none] [] with
    | some (.nx _ μ') => some (Out.ok D.non μ')
    | some (.rt d μ') => if lamf d = true then some (.ok d μ') else none
    | some (.ex c _ μ') => some (.exc c μ')
    | _ => none) = _
  rw [tot]
  simp [lamf]
theorem years_s {m e p : Int} (h : 0 ≤ m ∧ 1 ≤ e ∧ 0 ≤ p ∧ p < 1000) : M_years_it_lasts [.int m, .int e, .int p] [] = some (.ok (.int (cnt p e 80 m)) []) := by
  obtain ⟨hm0, he, hp, hp2⟩ := h
  have h0 : ¬ e < 1 := by omega
  have h1 : ¬ mn m p < 0 := by rw [mn_e]; omega
  obtain ⟨ρ2, μ2, w2, ⟨l, j, hρ, hμ, hq⟩⟩ := wl_meas (t := bAndT (bTst (bBin dLt (bVar 4) (bCon k_MOST_YEARS))) (bTst (bBin dGe (bVar 3) (bVar 1)))) (b := cSeq (cAug 3 dISub (bVar 1)) (cSeq (cAug 3 dIAdd (bBin dDiv (bBin dMulA (bVar 3) (bVar 2)) (bCon (.int 10000)))) (cAug 4 dIAdd (bCon (.int 1)))))
    (fun k ρ ν => ∃ (l : Int) (j : Nat), ρ = [some (.int m), some (.int e), some (.int p), some (.int l), some (.int j)] ∧ ν = [] ∧ j + k = 80 ∧ j + cnt p e k l = cnt p e 80 m)
    (fun ρ ν => ∃ (l : Int) (j : Nat), ρ = [some (.int m), some (.int e), some (.int p), some (.int l), some (.int j)] ∧ ν = [] ∧ j = cnt p e 80 m) (fun k ρ ν ⟨l, j, e1, e2, e3, e4⟩ => by
      subst e1 e2
      have hd := div_k ((l - e) * p)
      have hm := mul_small (i := l - e) (j := p) (by omega)
      cases k with
      | zero =>
        refine .inr ⟨[], ?_, l, j, rfl, rfl, by simpa [cnt] using e4⟩
        have : ¬ (j : Int) < 80 := by omega
        simp [this, k_MOST_YEARS]
      | succ k =>
        have hj : (j : Int) < 80 := by omega
        by_cases hc : e ≤ l
        · refine .inl ⟨[], by simp [hj, hc, k_MOST_YEARS], k, [some (.int m), some (.int e), some (.int p), some (.int (stp p e l)), some (.int ((j : Int) + 1))], [], Nat.lt_succ_self k, by simp [hm, hd, stp], stp p e l, j + 1, rfl, rfl, by omega, ?_⟩
          rw [cnt_succ] at e4
          rw [if_pos hc] at e4
          omega
        · refine .inr ⟨[], by simp [hj, hc, k_MOST_YEARS], l, j, rfl, rfl, ?_⟩
          rw [cnt_succ] at e4
          rw [if_neg hc] at e4
          omega) 1000 80 (by omega) [some (.int m), some (.int e), some (.int p), some (.int m), some (.int 0)] [] ⟨m, 0, rfl, rfl, by omega, by omega⟩
  subst hρ hμ
  have tot : B_years_it_lasts [some (.int m), some (.int e), some (.int p), none, none] [] = some (.rt (.int (cnt p e 80 m)) []) := by
    unfold B_years_it_lasts
    refine seq_nx (ρ1 := [some (.int m), some (.int e), some (.int p), none, none]) (μ1 := []) (by simp [-dMin2_i, dMin2_m, h0, h1]) (seq_nx (ρ1 := [some (.int m), some (.int e), some (.int p), some (.int m), some (.int 0)]) (μ1 := []) (by simp) (seq_nx (by rw [cWhile_s]; exact w2) (by simp [hq])))
  unfold M_years_it_lasts
  rw [fnS_s]
  show (match B_years_it_lasts [some (.int m), some (.int e), some (.int p), none, none] [] with
    | some (.nx _ μ') => some (Out.ok D.non μ')
    | some (.rt d μ') => if lamf d = true then some (.ok d μ') else none
    | some (.ex c _ μ') => some (.exc c μ')
    | _ => none) = _
  rw [tot]
  simp [lamf]
def bodyD : Cs := cSeq (cIf (bTst (bBin dLt (bVar 4) (bVar 1))) (cRet (bCon (.bl false))) (cNop)) (cSeq (cAug 4 dISub (bVar 1)) (cAug 4 dIAdd (bBin dDiv (bBin dMulA (bVar 4) (bVar 2)) (bCon (.int 10000)))))
theorem does_fl {m e p n : Int} (hp : 0 ≤ p ∧ p < 1000) : ∀ (ds : List D) (l : Int) (o : Option D), if cnt p e ds.length l = ds.length then ∃ l' o', fl (tgName 5) bodyD ds [some (.int m), some (.int e), some (.int p), some (.int n), some (.int l), o] [] = some (.nx [some (.int m), some (.int e), some (.int p), some (.int n), some (.int l'), o'] [])
    else fl (tgName 5) bodyD ds [some (.int m), some (.int e), some (.int p), some (.int n), some (.int l), o] [] = some (.rt (.bl false) [])
  | [], l, o => by
    rw [if_pos (show cnt p e ([] : List D).length l = ([] : List D).length from rfl)]
    exact ⟨l, o, rfl⟩
  | d :: ds, l, o => by
    have eu : fl (tgName 5) bodyD (d :: ds) [some (.int m), some (.int e), some (.int p), some (.int n), some (.int l), o] [] = (match bodyD [some (.int m), some (.int e), some (.int p), some (.int n), some (.int l), some d] [] with
      | some (.nx ρ2 μ2) => fl (tgName 5) bodyD ds ρ2 μ2
      | some (.ct ρ2 μ2) => fl (tgName 5) bodyD ds ρ2 μ2
      | some (.bk ρ2 μ2) => some (.nx ρ2 μ2)
      | r => r) := rfl
    rw [eu]
    have ec : cnt p e (d :: ds).length l = if e ≤ l then 1 + cnt p e ds.length (stp p e l) else 0 := rfl
    rw [ec]
    by_cases hc : e ≤ l
    · have eb : bodyD [some (.int m), some (.int e), some (.int p), some (.int n), some (.int l), some d] [] = some (.nx [some (.int m), some (.int e), some (.int p), some (.int n), some (.int (stp p e l)), some d] []) := by
        have hd := div_k ((l - e) * p)
        have hm := mul_small (i := l - e) (j := p) (by omega)
        have : ¬ l < e := by omega
        unfold bodyD
        simp [this, hd, hm, stp]
      rw [eb, if_pos hc]
      have ih := does_fl (m := m) (e := e) (n := n) hp ds (stp p e l) (some d)
      have hl : (d :: ds).length = 1 + ds.length := by rw [List.length_cons]; omega
      by_cases hq : cnt p e ds.length (stp p e l) = ds.length
      · rw [if_pos hq] at ih
        rw [if_pos (by rw [hl, hq])]
        exact ih
      · rw [if_neg hq] at ih
        rw [if_neg (by rw [hl]; omega)]
        exact ih
    · have eb : bodyD [some (.int m), some (.int e), some (.int p), some (.int n), some (.int l), some d] [] = some (.rt (.bl false) []) := by
        have : l < e := by omega
        unfold bodyD
        simp [this]
      rw [eb, if_neg hc, if_neg (by rw [List.length_cons]; omega)]
theorem does_s {m e p n : Int} (h : 0 ≤ p ∧ p < 1000 ∧ 0 ≤ n ∧ n ≤ 100) : M_does_last [.int m, .int e, .int p, .int n] [] = some (.ok (.bl (decide (cnt p e n.toNat m = n.toNat))) []) := by
  obtain ⟨hp, hp2, hn, hn2⟩ := h
  have k := does_fl (m := m) (e := e) (n := n) ⟨hp, hp2⟩ (rngD 0 n.toNat) m none
  rw [rngD_len] at k
  have e0 : cSet 4 (bVar 0) [some (.int m), some (.int e), some (.int p), some (.int n), none, none] [] = some (.nx [some (.int m), some (.int e), some (.int p), some (.int n), some (.int m), none] []) := by simp
  have e1 : bRng1 (bCons (bVar 3) (bNil)) [some (.int m), some (.int e), some (.int p), some (.int n), some (.int m), none] [] = some (.ok (rngD 0 n.toNat) []) := rng1_z (μ := []) (z := n) (by omega) (by simp)
  have tot : B_does_last [some (.int m), some (.int e), some (.int p), some (.int n), none, none] [] = some (.rt (.bl (decide (cnt p e n.toNat m = n.toNat))) []) := by
    unfold B_does_last
    refine seq_nx e0 ?_
    by_cases hq : cnt p e n.toNat m = n.toNat
    · rw [if_pos hq] at k
      obtain ⟨l', o', k⟩ := k
      refine seq_nx (ρ1 := [some (.int m), some (.int e), some (.int p), some (.int n), some (.int l'), o']) (μ1 := []) ?_ (by simp [hq])
      rw [cFor_s, e1]
      exact k
    · rw [if_neg hq] at k
      have e2 : cFor (bRng1 (bCons (bVar 3) (bNil))) (tgName 5) bodyD [some (.int m), some (.int e), some (.int p), some (.int n), some (.int m), none] [] = some (.rt (.bl false) []) := by
        rw [cFor_s, e1]
        exact k
      show cSeq (cFor (bRng1 (bCons (bVar 3) (bNil))) (tgName 5) bodyD) (cRet (bCon (.bl true))) _ _ = _
      rw [cSeq_s, e2]
      simp [hq]
  unfold M_does_last
  rw [fnS_s]
  show (match B_does_last [some (.int m), some (.int e), some (.int p), some (.int n), none, none] [] with
    | some (.nx _ μ') => some (Out.ok D.non μ')
    | some (.rt d μ') => if lamf d = true then some (.ok d μ') else none
    | some (.ex c _ μ') => some (.exc c μ')
    | _ => none) = _
  rw [tot]
  simp [lamf]
theorem paid_s {m p n : Int} (h : 0 ≤ m ∧ m ≤ 1000000 ∧ 0 ≤ p ∧ p < 1000 ∧ 1 ≤ n ∧ n ≤ 80) :
    ∃ w, M_paid_for_years [.int m, .int p, .int n] [] = some (.ok (.int w) []) ∧ 0 ≤ w ∧ w ≤ m ∧ cnt p w n.toNat m = n.toNat ∧ cnt p (w + 1) n.toNat m ≠ n.toNat := by
  obtain ⟨hm0, hm1, hp, hp2, hn, hn2⟩ := h
  have h1 : ¬ mn m p < 0 := by rw [mn_e]; omega
  have hz := cnt_zero (parts := p) hp n.toNat m hm0
  have ht : cnt p (m + 1) n.toNat m ≠ n.toNat := by
    have : n.toNat = (n.toNat - 1) + 1 := by omega
    rw [this, cnt_succ, if_neg (by omega)]
    omega
  obtain ⟨ρ2, μ2, w2, ⟨w, low, o6, hρ2, hμ2, k1, k2, k3⟩⟩ := wl_meas (t := bTst (bBin dGt (bBin dSub (bVar 4) (bVar 3)) (bCon (.int 1)))) (b := cSeq (cSet 5 (bBin dDiv (bBin dAdd (bVar 3) (bVar 4)) (bCon (.int 2)))) (cIf (bTru (bCallP M_does_last (bCons (bVar 0) (bCons (bVar 5) (bCons (bVar 1) (bCons (bVar 2) (bNil))))))) (cSet 3 (bVar 5)) (cSet 4 (bVar 5))))
    (fun k ρ ν => ∃ (w low : Int) (o6 : Option D), ρ = [some (.int m), some (.int p), some (.int n), some (.int low), some (.int w), o6] ∧ ν = [] ∧ (0 ≤ low ∧ low < w ∧ w ≤ m + 1) ∧ cnt p low n.toNat m = n.toNat ∧ cnt p w n.toNat m ≠ n.toNat ∧ w - low ≤ 2 ^ k)
    (fun ρ ν => ∃ (w low : Int) (o6 : Option D), ρ = [some (.int m), some (.int p), some (.int n), some (.int low), some (.int w), o6] ∧ ν = [] ∧ (0 ≤ low ∧ low + 1 = w ∧ w ≤ m + 1) ∧ cnt p low n.toNat m = n.toNat ∧ cnt p w n.toNat m ≠ n.toNat) (fun k ρ ν ⟨w, low, o6, e, hν, ⟨a1, a2, a3⟩, a4, a5, a6⟩ => by
      subst e hν
      by_cases hc : 1 < w - low
      · refine .inl ⟨[], by simp [hc], ?_⟩
        cases k with
        | zero =>
          have : (2 : Int) ^ 0 = 1 := by decide
          omega
        | succ k =>
          have hm0 : low < (low + w) / 2 ∧ (low + w) / 2 < w := by omega
          have ey := does_s (m := m) (e := (low + w) / 2) (p := p) (n := n) ⟨hp, hp2, by omega, by omega⟩
          have hd : divOk (low + w) 2 = true := by simp [divOk]
          have h6 : (2 : Int) ^ (k + 1) = 2 ^ k * 2 := Int.pow_succ 2 k
          by_cases hg' : cnt p ((low + w) / 2) n.toNat m = n.toNat
          · exact ⟨k, [some (.int m), some (.int p), some (.int n), some (.int ((low + w) / 2)), some (.int w), some (.int ((low + w) / 2))], [], Nat.lt_succ_self k, by simp [ey, hd, hg', purs, pur, trD], w, (low + w) / 2, _, rfl, rfl, ⟨by omega, hm0.2, a3⟩, hg', a5, by omega⟩
          · exact ⟨k, [some (.int m), some (.int p), some (.int n), some (.int low), some (.int ((low + w) / 2)), some (.int ((low + w) / 2))], [], Nat.lt_succ_self k, by simp [ey, hd, hg', purs, pur, trD], (low + w) / 2, low, _, rfl, rfl, ⟨a1, hm0.1, by omega⟩, a4, hg', by omega⟩
      · exact .inr ⟨[], by simp [hc], w, low, o6, rfl, rfl, ⟨a1, by omega, a3⟩, a4, a5⟩) 1000 40 (by omega) [some (.int m), some (.int p), some (.int n), some (.int 0), some (.int (m + 1)), none] [] ⟨m + 1, 0, none, rfl, rfl, ⟨by omega, by omega, by omega⟩, hz, ht, by
        have : (2 : Int) ^ 40 = 1099511627776 := by decide
        omega⟩
  subst hρ2 hμ2
  refine ⟨low, ?_, k1.1, by omega, k2, by rw [k1.2.1]; exact k3⟩
  have tot : B_paid_for_years [some (.int m), some (.int p), some (.int n), none, none, none] [] = some (.rt (.int low) []) := by
    unfold B_paid_for_years
    refine seq_nx (ρ1 := [some (.int m), some (.int p), some (.int n), none, none, none]) (μ1 := []) (by simp [-dMin2_i, dMin2_m, h1, k_MOST_YEARS, hn, hn2]) (seq_nx (ρ1 := [some (.int m), some (.int p), some (.int n), some (.int 0), some (.int (m + 1)), none]) (μ1 := []) (by simp) (seq_nx (ρ1 := [some (.int m), some (.int p), some (.int n), some (.int low), some (.int w), o6]) (μ1 := []) (by rw [cWhile_s]; exact w2) (by simp)))
  unfold M_paid_for_years
  rw [fnS_s]
  show (match B_paid_for_years [some (.int m), some (.int p), some (.int n), none, none, none] [] with
    | some (.nx _ μ') => some (Out.ok D.non μ')
    | some (.rt d μ') => if lamf d = true then some (.ok d μ') else none
    | some (.ex c _ μ') => some (.exc c μ')
    | _ => none) = _
  rw [tot]
  simp [lamf]
end K10

set_option linter.all false
set_option maxRecDepth 100000
set_option maxHeartbeats 4000000
namespace K10
open PySem Mi L2 Mw
theorem cut_take {α : Type} {xs : List α} {k : Int} (h0 : 0 ≤ k) (h : k.toNat ≤ xs.length) : cutD xs none (some k) = xs.take k.toNat := by
  unfold cutD
  have h1 : HT.sIx xs.length 0 none = 0 := rfl
  have h2 : HT.sIx xs.length xs.length (some k) = k.toNat := by
    simp only [HT.sIx]
    rw [if_neg (by omega)]
    omega
  rw [h1, h2]
  rfl
theorem flat_len : ∀ (ps : Rows), (∀ p ∈ ps, p.1 ≤ 100000) → (flatR ps).length ≤ 100000 * ps.length
  | [], _ => by simp [flatR]
  | p :: ps, h => by
    have h1 := h p List.mem_cons_self
    have h2 := flat_len ps fun q hq => h q (List.mem_cons_of_mem _ hq)
    rw [flatR_c, List.length_append, List.length_replicate, List.length_cons]
    omega
structure Mt (pay : Int) (ms : Rows) : Prop where
  hpay : 0 ≤ pay ∧ pay ≤ 100000
  hms : MsOk ms
  hlen : ms.length ≤ 10
theorem Mt.c {pay : Int} {ms : Rows} (h : Mt pay ms) {p : Int × Int} (hp : p ∈ ms) : 0 ≤ pay * p.1 / 1000 ∧ pay * p.1 / 1000 ≤ 100000 := by
  have h1 := (h.hms p hp).1
  have h2 : 0 ≤ pay * p.1 := mul_nn h.hpay.1 h1.1
  have h3 : pay * p.1 ≤ 100000 * 1000 := Int.mul_le_mul h.hpay.2 h1.2 h1.1 (by omega)
  omega
theorem lmet_s {pay own : Int} {ms : Rows} (h : Mt pay ms) (ho : 0 ≤ own ∧ own ≤ 100000) : M__law_met [.lst (rwD ms), .int pay, .int own] [] = some (.ok (.int (metV pay own ms)) []) := by
  have hlen := h.hlen
  have hpay := h.hpay
  have e := cl_pure (t := tgTup [tgName 4, tgName 5]) (fc := bYes) (fe := bBin dMulA (bLst (bCons (bVar 5) (bNil))) (bBin dDiv (bBin dMulA (bVar 1) (bVar 4)) (bCon (.int 1000)))) (ρ := wipeD [some (.lst (rwD ms)), some (.int pay), some (.int own), none, none, none] [4, 5]) (μ := []) (fun _ => true) (fun d => match d with | .tup [.int a, .int b] => .lst (repD (pay * a / 1000).toNat [.int b]) | _ => .non) (rwD ms) [] (fun d hd => by
    obtain ⟨q, hq, rfl⟩ := List.mem_map.mp hd
    have hc := h.c hq
    have hm : mulOk pay q.1 = true := by
      have := (h.hms q hq).1
      exact mul_small (by omega)
    refine ⟨[some (.lst (rwD ms)), some (.int pay), some (.int own), none, some (.int q.1), some (.int q.2)], by simp [wipeD], rfl, fun _ => ?_⟩
    have hmul : dMulA [] (.lst [.int q.2]) (.int (pay * q.1 / 1000)) = some (.lst (repD (pay * q.1 / 1000).toNat [.int q.2])) := by
      unfold dMulA
      simp only [vw]
      rw [if_pos ⟨by omega, by omega, by simp; omega⟩]
    simp [hm, div_k1, hmul]) (by rw [rwD_len]; simp; omega)
  have ec : bComp [4, 5] (bItemsA (bVar 0)) (tgTup [tgName 4, tgName 5]) (bYes) (bBin dMulA (bLst (bCons (bVar 5) (bNil))) (bBin dDiv (bBin dMulA (bVar 1) (bVar 4)) (bCon (.int 1000)))) [some (.lst (rwD ms)), some (.int pay), some (.int own), none, none, none] [] = some (.ok (.lst ((cR pay ms).map fun q => D.lst (repD q.1.toNat [.int q.2]))) []) := by
    have hit : bItemsA (bVar 0) [some (.lst (rwD ms)), some (.int pay), some (.int own), none, none, none] [] = some (.ok (rwD ms) []) := by simp
    rw [bComp_s, hit]
    simp only [ob]
    rw [e, List.nil_append, List.filter_eq_self.mpr (by simp)]
    unfold rwD cR
    rw [List.map_map, List.map_map]
    rfl
  have hfl : (flatR (cR pay ms)).length ≤ 1000000 := by
    have := flat_len (cR pay ms) fun p hp => by
      unfold cR at hp
      obtain ⟨q, hq, rfl⟩ := List.mem_map.mp hp
      exact (h.c hq).2
    have e2 : (cR pay ms).length = ms.length := by unfold cR; simp
    rw [e2] at this
    omega
  have c2 : dSum2 [] [.lst ((cR pay ms).map fun q => D.lst (repD q.1.toNat [.int q.2])), .lst []] = some (.lst ((flatR (cR pay ms)).map .int)) := by
    unfold dSum2
    simp only [vw, vws_reps, flat_reps, List.nil_append]
    have hz : ([] : List D).length + ((flatR (cR pay ms)).map D.int).length ≤ 16777216 := by simp; omega
    rw [if_pos hz]
    cases cR pay ms with
    | nil => rfl
    | cons q qs => rfl
  have hz : dMulA [] (.lst [.int 0]) (.int own) = some (.lst ((List.replicate own.toNat (0 : Int)).map .int)) := by
    unfold dMulA
    simp only [vw]
    rw [if_pos ⟨by omega, by omega, by simp; omega⟩, repD_int]
  have hadd := dAdd_ll (μ := []) ((flatR (cR pay ms)).map .int) ((List.replicate own.toNat (0 : Int)).map .int) (by simp; omega)
  rw [← List.map_append] at hadd
  have hL : own.toNat ≤ (((flatR (cR pay ms)) ++ List.replicate own.toNat (0 : Int)).map D.int).length := by simp
  have hts := take_sum (pay := pay) hpay.1 ms own own.toNat ho.1 fun p hp => (h.hms p hp).1.1
  generalize hX : flatR (cR pay ms) ++ List.replicate own.toNat (0 : Int) = X at hadd hL hts
  have e1 : cSet 3 (bBin dAdd (bFn dSum2 (bCons (bComp [4, 5] (bItemsA (bVar 0)) (tgTup [tgName 4, tgName 5]) (bYes) (bBin dMulA (bLst (bCons (bVar 5) (bNil))) (bBin dDiv (bBin dMulA (bVar 1) (bVar 4)) (bCon (.int 1000))))) (bCons (bLst (bNil)) (bNil)))) (bBin dMulA (bLst (bCons (bCon (.int 0)) (bNil))) (bVar 2))) [some (.lst (rwD ms)), some (.int pay), some (.int own), none, none, none] [] = some (.nx [some (.lst (rwD ms)), some (.int pay), some (.int own), some (.lst (X.map .int)), none, none] []) := by
    rw [cSet_s, bBin_s, bFn_s, bCons_s, ec]
    simp [c2, hz, hadd, -dAdd_l, -List.map_replicate]
  have hsl : dSl [] (.lst (X.map .int)) none (some own) = some (.lst ((X.take own.toNat).map .int)) := by
    show some (D.lst (cutD (X.map D.int) none (some own))) = _
    rw [cut_take ho.1 hL, List.map_take]
  have hsum : dSum [] [.lst ((X.take own.toNat).map .int)] = some (.int (gM pay own ms)) := by
    unfold dSum
    simp only [vw, intsD_map, hts]
  generalize X.take own.toNat = Y at hsl hsum
  have tot : B__law_met [some (.lst (rwD ms)), some (.int pay), some (.int own), none, none, none] [] = some (.rt (.int (metV pay own ms)) []) := by
    unfold B__law_met
    refine seq_nx e1 ?_
    simp [hsl, hsum, div_k1, metV]
  unfold M__law_met
  rw [fnS_s]
  show (match B__law_met [some (.lst (rwD ms)), some (.int pay), some (.int own), none, none, none] [] with
    | some (.nx _ μ') => some (Out.ok D.non μ')
    | some (.rt d μ') => if lamf d = true then some (.ok d μ') else none
    | some (.ex c _ μ') => some (.exc c μ')
    | _ => none) = _
  rw [tot]
  simp [lamf]
end K10

set_option linter.all false
set_option maxRecDepth 100000
set_option maxHeartbeats 4000000
namespace K10
open PySem Mi L2 Mw
def incN : Rows → Prop
  | a :: b :: r => (a.1 < b.1 ∧ a.2 ≤ b.2) ∧ incN (b :: r)
  | _ => True
theorem incN_inc : ∀ {bs : Rows}, incN bs → inc bs
  | [], _ => trivial
  | [_], _ => trivial
  | a :: b :: r, h => ⟨h.1.1, incN_inc (bs := b :: r) h.2⟩
theorem incN_get : ∀ {bs : Rows} {i : Nat} {p q : Int × Int}, incN bs → bs[i]? = some p → bs[i + 1]? = some q → p.1 < q.1 ∧ p.2 ≤ q.2
  | [], _, _, _, _, h, _ => by simp at h
  | [a], i, _, _, _, _, h => by simp at h
  | a :: b :: r, 0, p, q, hi, h1, h2 => by
    simp at h1 h2
    subst h1 h2
    exact hi.1
  | a :: b :: r, i + 1, p, q, hi, h1, h2 => incN_get (bs := b :: r) (i := i) hi.2 (by simpa using h1) (by simpa using h2)
theorem zip_tailN {bs : Rows} {r : Int × Int} {rest : Rows} (e : bs = r :: rest) (hi : incN bs) (d : D) (hd : d ∈ zipD (rwD bs) (rwD rest)) : ∃ p q : Int × Int, d = .tup [.tup [.int p.1, .int p.2], .tup [.int q.1, .int q.2]] ∧ p.1 < q.1 ∧ p.2 ≤ q.2 := by
  obtain ⟨i, hi', ei⟩ := List.mem_iff_getElem.mp hd
  obtain ⟨a, b, h1, h2, h3⟩ := zipD_get _ _ i d (by rw [← ei]; exact List.getElem?_eq_getElem hi')
  unfold rwD at h1 h2
  rw [List.getElem?_map] at h1 h2
  obtain ⟨p, p1, p2⟩ := Option.map_eq_some_iff.mp h1
  obtain ⟨q, q1, q2⟩ := Option.map_eq_some_iff.mp h2
  refine ⟨p, q, by rw [h3, ← p2, ← q2], incN_get hi p1 ?_⟩
  rw [e, List.getElem?_cons_succ]
  exact q1
structure Po (part : Int) (ms os : Rows) (most : Int) : Prop where
  wb : WB os
  inc : incN os
  hms : MsOk ms
  hml : ms.length ≤ 10
  hpart : 0 ≤ part ∧ part ≤ 1000
  hmost : 0 ≤ most ∧ most ≤ 100000
def insP (part : Int) (ms os : Rows) (most : Int) : SO := .ins "Plan" ["part", "matches", "owned", "most"] [.int part, .tup (rwD ms), .tup (rwD os), .int most]
theorem n12 : ¬ (("part" : Str) = "matches") := by decide
theorem n13 : ¬ (("part" : Str) = "owned") := by decide
theorem n14 : ¬ (("part" : Str) = "most") := by decide
theorem n23 : ¬ (("matches" : Str) = "owned") := by decide
theorem n24 : ¬ (("matches" : Str) = "most") := by decide
theorem n34 : ¬ (("owned" : Str) = "most") := by decide
section
variable {μ : Sto} {m : Nat} {part most : Int} {ms os : Rows}
theorem pinit_s (P : Po part ms os most) (h : μ[m]? = some (.ins "Plan" [] [])) :
    M_Plan___init__ [.ref m, .int part, .lst (rwD ms), .lst (rwD os), .int most] μ = some (.ok .non (μ.set m (insP part ms os most))) := by
  have hml : m < μ.length := (List.getElem?_eq_some_iff.mp h).1
  have hg : ∀ x, (μ.set m x)[m]? = some x := fun x => List.getElem?_set_self hml
  obtain ⟨r, rest, er⟩ := P.wb.first
  have hlen := P.wb.len
  have hl2 := P.hml
  have hp := P.hpart
  have hmo := P.hmost
  generalize hρ : ([some (.ref m), some (.int part), some (.lst (rwD ms)), some (.lst (rwD os)), some (.int most), none, none, none, none] : En) = ρ
  have g0 : ρ[0]? = some (some (.ref m)) := by rw [← hρ]; rfl
  have g1 : ρ[1]? = some (some (.int part)) := by rw [← hρ]; rfl
  have g2 : ρ[2]? = some (some (.lst (rwD ms))) := by rw [← hρ]; rfl
  have g3 : ρ[3]? = some (some (.lst (rwD os))) := by rw [← hρ]; rfl
  have g4 : ρ[4]? = some (some (.int most)) := by rw [← hρ]; rfl
  have hm0 : ¬ most < 0 := by omega
  have e1 : cIf (bOrT (bNotT (bTst (bChain dLe dLe (bCon (.int 0)) (bVar 1) (bCon (.int 1000))))) (bTst (bBin dLt (bVar 4) (bCon (.int 0))))) (cRaise "PensionError") (cNop) ρ μ = some (.nx ρ μ) := by
    simp [g1, g4, hp.1, hp.2, hm0]
  have hz1 : (rwD ms).length ≤ 16777216 := by rw [rwD_len]; omega
  have hz2 : (rwD os).length ≤ 16777216 := by rw [rwD_len]; omega
  have x2 : bGx [5, 6] (bItemsA (bVar 2)) (tgTup [tgName 5, tgName 6]) (bYes) (bOr (bNot (bChain dLe dLe (bCon (.int 0)) (bVar 5) (bCon (.int 1000)))) (bNot (bChain dLe dLe (bCon (.int 0)) (bVar 6) (bCon (.int 2000))))) () stAny (fun _ => some (.bl false)) ρ μ = some (.ok (.bl false) μ) := by
    unfold bGx
    have hit : bItemsA (bVar 2) ρ μ = some (.ok (rwD ms) μ) := by simp [g2]
    rw [hit]
    simp only [ob, hz1, if_true]
    refine cgo_any _ fun d hd => ?_
    obtain ⟨p, hp', rfl⟩ := List.mem_map.mp hd
    obtain ⟨⟨a1, a2⟩, a3, a4⟩ := P.hms p hp'
    rw [← hρ]
    exact ⟨[some (.ref m), some (.int part), some (.lst (rwD ms)), some (.lst (rwD os)), some (.int most), some (.int p.1), some (.int p.2), none, none], by simp [wipeD], by simp [a1, a2, a3, a4]⟩
  have e2 : cIf (bTru (bGx [5, 6] (bItemsA (bVar 2)) (tgTup [tgName 5, tgName 6]) (bYes) (bOr (bNot (bChain dLe dLe (bCon (.int 0)) (bVar 5) (bCon (.int 1000)))) (bNot (bChain dLe dLe (bCon (.int 0)) (bVar 6) (bCon (.int 2000))))) () stAny (fun _ => some (.bl false)))) (cRaise "PensionError") (cNop) ρ μ = some (.nx ρ μ) := by
    rw [cIf_s, bTru_s, x2]; simp [trD]
  have x3 : bGx [7, 5] (bItemsA (bVar 3)) (tgTup [tgName 7, tgName 5]) (bYes) (bNot (bChain dLe dLe (bCon (.int 0)) (bVar 5) (bCon (.int 1000)))) () stAny (fun _ => some (.bl false)) ρ μ = some (.ok (.bl false) μ) := by
    unfold bGx
    have hit : bItemsA (bVar 3) ρ μ = some (.ok (rwD os) μ) := by simp [g3]
    rw [hit]
    simp only [ob, hz2, if_true]
    refine cgo_any _ fun d hd => ?_
    obtain ⟨p, hp', rfl⟩ := List.mem_map.mp hd
    obtain ⟨a1, a2⟩ := P.wb.rate p hp'
    rw [← hρ]
    exact ⟨[some (.ref m), some (.int part), some (.lst (rwD ms)), some (.lst (rwD os)), some (.int most), some (.int p.2), none, some (.int p.1), none], by simp [wipeD], by simp [a1, a2]⟩
  have hx0 : dIxA μ (.lst (rwD os)) (.int 0) = some (.tup [.int 0, .int r]) := by rw [er]; simp [rwD]
  have hxl : dLenA μ [.lst (rwD os)] = some (.int os.length) := by simp [rwD_len]
  have hn0 : os ≠ [] := P.wb.ne
  have e3 : cIf (bOrT (bTst (bBin dEqA (bFn dLenA (bCons (bVar 3) (bNil))) (bCon (.int 0)))) (bOrT (bTst (bBin dNeA (bBin dIxA (bBin dIxA (bVar 3) (bCon (.int 0))) (bCon (.int 0))) (bCon (.int 0)))) (bTru (bGx [7, 5] (bItemsA (bVar 3)) (tgTup [tgName 7, tgName 5]) (bYes) (bNot (bChain dLe dLe (bCon (.int 0)) (bVar 5) (bCon (.int 1000)))) () stAny (fun _ => some (.bl false)))))) (cRaise "PensionError") (cNop) ρ μ = some (.nx ρ μ) := by
    have t1 : bTst (bBin dEqA (bFn dLenA (bCons (bVar 3) (bNil))) (bCon (.int 0))) ρ μ = some (.ok false μ) := by
      rw [bTst_s, bBin_s, bFn_s, bCons_s]
      simp only [bVar_s, g3, ob, bNil_s, hxl, rt, bCon_s]
      simp [hn0]
    have t2 : bTst (bBin dNeA (bBin dIxA (bBin dIxA (bVar 3) (bCon (.int 0))) (bCon (.int 0))) (bCon (.int 0))) ρ μ = some (.ok false μ) := by
      rw [bTst_s, bBin_s, bBin_s, bBin_s]
      simp only [bVar_s, g3, ob, bCon_s, hx0, rt]
      simp
    rw [cIf_s, bOrT_s, t1]
    simp only [ob, Bool.false_eq_true, if_false]
    rw [bOrT_s, t2]
    simp only [ob, Bool.false_eq_true, if_false]
    rw [bTru_s, x3]
    simp [trD]
  have hzl : (zipD (rwD os) (rwD rest)).length ≤ 16777216 := by
    have key : ∀ xs ys : List D, (zipD xs ys).length ≤ xs.length := fun xs => by
      induction xs with
      | nil => intro ys; simp [zipD]
      | cons x xs ih =>
        intro ys
        cases ys with
        | nil => simp [zipD]
        | cons y ys => simp [zipD, ih ys]
    have := key (rwD os) (rwD rest)
    rw [rwD_len] at this
    omega
  have hsl : bZip (bCons (bVar 3) (bCons (bSl (bVar 3) (bPart (bCon (.int 1))) (bNoPart)) (bNil))) ρ μ = some (.ok (zipD (rwD os) (rwD rest)) μ) := by
    have ec : cutD (rwD os) (some 1) none = rwD rest := by rw [er]; exact cut_1 _ _
    have : dSl μ (.lst (rwD os)) (some 1) none = some (.lst (rwD rest)) := by rw [← ec]; rfl
    simp [g3, this]
  have x4 : bGx [5, 8] (bZip (bCons (bVar 3) (bCons (bSl (bVar 3) (bPart (bCon (.int 1))) (bNoPart)) (bNil)))) (tgTup [tgName 5, tgName 8]) (bYes) (bOr (bBin dLe (bBin dIxA (bVar 8) (bCon (.int 0))) (bBin dIxA (bVar 5) (bCon (.int 0)))) (bBin dLt (bBin dIxA (bVar 8) (bCon (.int 1))) (bBin dIxA (bVar 5) (bCon (.int 1))))) () stAny (fun _ => some (.bl false)) ρ μ = some (.ok (.bl false) μ) := by
    unfold bGx
    rw [hsl]
    simp only [ob, hzl, if_true]
    refine cgo_any _ fun d hd => ?_
    obtain ⟨p, q, rfl, hpq, hpq2⟩ := zip_tailN er P.inc d hd
    have h1 : ¬ q.1 ≤ p.1 := by omega
    have h2 : ¬ q.2 < p.2 := by omega
    rw [← hρ]
    exact ⟨[some (.ref m), some (.int part), some (.lst (rwD ms)), some (.lst (rwD os)), some (.int most), some (.tup [.int p.1, .int p.2]), none, none, some (.tup [.int q.1, .int q.2])], by simp [wipeD], by simp [h1, h2]⟩
  have e4 : cIf (bTru (bGx [5, 8] (bZip (bCons (bVar 3) (bCons (bSl (bVar 3) (bPart (bCon (.int 1))) (bNoPart)) (bNil)))) (tgTup [tgName 5, tgName 8]) (bYes) (bOr (bBin dLe (bBin dIxA (bVar 8) (bCon (.int 0))) (bBin dIxA (bVar 5) (bCon (.int 0)))) (bBin dLt (bBin dIxA (bVar 8) (bCon (.int 1))) (bBin dIxA (bVar 5) (bCon (.int 1))))) () stAny (fun _ => some (.bl false)))) (cRaise "PensionError") (cNop) ρ μ = some (.nx ρ μ) := by
    rw [cIf_s, bTru_s, x4]; simp [trD]
  have i1 : insD μ (.ref m) = some ((m, ("Plan" : Str), ([] : List Str), ([] : List D)) : Nat × Str × List Str × List D) := by unfold insD; simp [h]
  have hlm := lamfs_rw ms
  have hlo := lamfs_rw os
  have f1 : cFld C_part "part" (bVar 0) (bVar 1) ρ μ = some (.nx ρ (μ.set m (.ins "Plan" ["part"] [.int part]))) := by
    unfold cFld fldPut
    simp [g0, g1, i1, putD, lamf]
  have i2 : insD (μ.set m (.ins "Plan" ["part"] [.int part])) (.ref m) = some ((m, ("Plan" : Str), ([("part" : Str)] : List Str), ([D.int part] : List D)) : Nat × Str × List Str × List D) := by unfold insD; simp [hg]
  have f2 : cFld C_matches "matches" (bVar 0) (bFn dTuple (bCons (bVar 2) (bNil))) ρ (μ.set m (.ins "Plan" ["part"] [.int part])) = some (.nx ρ (μ.set m (.ins "Plan" ["part", "matches"] [.int part, .tup (rwD ms)]))) := by
    unfold cFld fldPut
    simp [g0, g2, i2, putD, lamf, hlm, n12]
  have i3 : insD (μ.set m (.ins "Plan" ["part", "matches"] [.int part, .tup (rwD ms)])) (.ref m) = some ((m, ("Plan" : Str), ([("part" : Str), ("matches" : Str)] : List Str), ([D.int part, D.tup (rwD ms)] : List D)) : Nat × Str × List Str × List D) := by unfold insD; simp [hg]
  have f3 : cFld C_owned "owned" (bVar 0) (bFn dTuple (bCons (bVar 3) (bNil))) ρ (μ.set m (.ins "Plan" ["part", "matches"] [.int part, .tup (rwD ms)])) = some (.nx ρ (μ.set m (.ins "Plan" ["part", "matches", "owned"] [.int part, .tup (rwD ms), .tup (rwD os)]))) := by
    unfold cFld fldPut
    simp [g0, g3, i3, putD, lamf, hlm, hlo, n13, n23]
  have i4 : insD (μ.set m (.ins "Plan" ["part", "matches", "owned"] [.int part, .tup (rwD ms), .tup (rwD os)])) (.ref m) = some ((m, ("Plan" : Str), ([("part" : Str), ("matches" : Str), ("owned" : Str)] : List Str), ([D.int part, D.tup (rwD ms), D.tup (rwD os)] : List D)) : Nat × Str × List Str × List D) := by unfold insD; simp [hg]
  have f4 : cFld C_most "most" (bVar 0) (bVar 4) ρ (μ.set m (.ins "Plan" ["part", "matches", "owned"] [.int part, .tup (rwD ms), .tup (rwD os)])) = some (.nx ρ (μ.set m (insP part ms os most))) := by
    unfold cFld fldPut
    simp [g0, g4, i4, putD, lamf, hlm, hlo, n14, n24, n34]
    rfl
  have tot : B_Plan___init__ ρ μ = some (.nx ρ (μ.set m (insP part ms os most))) := by
    unfold B_Plan___init__
    exact seq_nx e1 (seq_nx e2 (seq_nx e3 (seq_nx e4 (seq_nx f1 (seq_nx f2 (seq_nx f3 f4))))))
  unfold M_Plan___init__
  rw [fnS_s]
  show (match B_Plan___init__ [some (.ref m), some (.int part), some (.lst (rwD ms)), some (.lst (rwD os)), some (.int most), none, none, none, none] μ with
    | some (.nx _ μ') => some (Out.ok D.non μ')
    | some (.rt d μ') => if lamf d = true then some (.ok d μ') else none
    | some (.ex c _ μ') => some (.exc c μ')
    | _ => none) = _
  rw [hρ, tot]
theorem pmake_s {ρ : En} {fs : Cb (List D)} {μ0 : Sto} (P : Po part ms os most) (hfs : fs ρ μ0 = some (.ok [.int part, .lst (rwD ms), .lst (rwD os), .int most] μ)) :
    bMake "Plan" M_Plan___init__ fs ρ μ0 = some (.ok (.ref μ.length) (μ ++ [insP part ms os most])) := by
  have hl : lamfs [.int part, .lst (rwD ms), .lst (rwD os), .int most] = true := by simp [lamfs, lamf, lamfs_rw]
  unfold bMake
  rw [hfs]
  simp only [ob, hl, if_true]
  rw [pinit_s P get_last, set_last]
end
end K10

set_option linter.all false
set_option maxRecDepth 100000
set_option maxHeartbeats 4000000
namespace K10
open PySem Mi L2 Mw
def ownV (part most pay mine laid : Int) : Int := mx 0 (mn (pay * mn mine part / 1000) (most - laid))
section
variable {μ : Sto} {n : Nat} {part most pay : Int} {ms os : Rows}
theorem fldP {ρ : En} {i : Nat} (h : μ[n]? = some (insP part ms os most)) (hr : ρ[i]? = some (some (.ref n))) :
    bFld C_part "part" (bVar i) ρ μ = some (.ok (.int part) μ) ∧ bFld C_matches "matches" (bVar i) ρ μ = some (.ok (.tup (rwD ms)) μ) ∧ bFld C_owned "owned" (bVar i) ρ μ = some (.ok (.tup (rwD os)) μ) ∧ bFld C_most "most" (bVar i) ρ μ = some (.ok (.int most) μ) :=
  ⟨bFld_ref (by simp [hr]) h (by simp) rfl, bFld_ref (by simp [hr]) h (by simp) rfl, bFld_ref (by simp [hr]) h (by simp) rfl, bFld_ref (by simp [hr]) h (by simp) rfl⟩
theorem methP {F : FnS} {tab : List (Str × FnS)} {m : Str} {fo : Cb D} {fs : Cb (List D)} {ds : List D} {ρ : En} (ht : tab.lookup ("Plan" : Str) = some F) (hm : m ∉ (["part", "matches", "owned", "most"] : List Str)) (hi : fo ρ μ = some (.ok (.ref n) μ)) (h : μ[n]? = some (insP part ms os most)) (hfs : fs ρ μ = some (.ok ds μ)) (hl : lamfs ds = true) :
    bMeth tab m fo fs ρ μ = F (.ref n :: ds) μ := bMeth_ref hi h ht hm hfs hl
theorem own_s {mine laid : Int} (P : Po part ms os most) (h : μ[n]? = some (insP part ms os most)) (hp : 0 ≤ pay) (hm : 0 ≤ mine) (hl : 0 ≤ laid) : M_Plan_own_part [.ref n, .int pay, .int mine, .int laid] μ = some (.ok (.int (ownV part most pay mine laid)) μ) := by
  have hpart := P.hpart
  obtain ⟨a1, _, _, a4⟩ := fldP (ρ := [some (.ref n), some (.int pay), some (.int mine), some (.int laid)]) (i := 0) h rfl
  have hmin : ¬ (if laid < (if mine < pay then mine else pay) then laid else if mine < pay then mine else pay) < 0 := by
    split
    · omega
    · split <;> omega
  have hmu : mulOk pay (mn mine part) = true := mul_small (by rw [mn_e]; omega)
  have tot : B_Plan_own_part [some (.ref n), some (.int pay), some (.int mine), some (.int laid)] μ = some (.rt (.int (ownV part most pay mine laid)) μ) := by
    unfold B_Plan_own_part
    refine seq_nx (ρ1 := [some (.ref n), some (.int pay), some (.int mine), some (.int laid)]) (μ1 := μ) (by simp [hmin]) ?_
    simp [-dMin2_i, dMin2_m, -dMax2_i, dMax2_m, a1, a4, hmu, div_k1]
    rfl
  unfold M_Plan_own_part
  rw [fnS_s]
  show (match B_Plan_own_part [some (.ref n), some (.int pay), some (.int mine), some (.int laid)] μ with
    | some (.nx _ μ') => some (Out.ok D.non μ')
    | some (.rt d μ') => if lamf d = true then some (.ok d μ') else none
    | some (.ex c _ μ') => some (.exc c μ')
    | _ => none) = _
  rw [tot]
  simp [lamf]
def bodyM : Cs := cSeq (cSet 7 (bFn dMin2 (bCons (bVar 3) (bCons (bBin dDiv (bBin dMulA (bVar 1) (bVar 5)) (bCon (.int 1000))) (bNil))))) (cSeq (cAug 4 dIAdd (bBin dMulA (bVar 7) (bVar 6))) (cAug 3 dISub (bVar 7)))
theorem met_fl {a0 a2 : Option D} : ∀ (ms : Rows), MsOk ms → ∀ (left found : Int) (o5 o6 o7 : Option D), ∃ l' o5' o6' o7', fl (tgTup [tgName 5, tgName 6]) bodyM (rwD ms) [a0, some (.int pay), a2, some (.int left), some (.int found), o5, o6, o7] μ = some (.nx [a0, some (.int pay), a2, some (.int l'), some (.int (found + gM pay left ms)), o5', o6', o7'] μ)
  | [], _, left, found, o5, o6, o7 => ⟨left, o5, o6, o7, by rw [show gM pay left [] = 0 from rfl, Int.add_zero]; rfl⟩
  | p :: ms, hms, left, found, o5, o6, o7 => by
    obtain ⟨⟨b1, b2⟩, b3, b4⟩ := hms p List.mem_cons_self
    obtain ⟨l', q5, q6, q7, e⟩ := met_fl ms (fun q hq => hms q (List.mem_cons_of_mem _ hq)) (left - mn left (pay * p.1 / 1000)) (found + mn left (pay * p.1 / 1000) * p.2) (some (.int p.1)) (some (.int p.2)) (some (.int (mn left (pay * p.1 / 1000))))
    refine ⟨l', q5, q6, q7, ?_⟩
    have h1 : mulOk pay p.1 = true := mul_small (by omega)
    have h2 : mulOk (mn left (pay * p.1 / 1000)) p.2 = true := mul_small (by omega)
    have eb : bodyM [a0, some (.int pay), a2, some (.int left), some (.int found), some (.int p.1), some (.int p.2), o7] μ = some (.nx [a0, some (.int pay), a2, some (.int (left - mn left (pay * p.1 / 1000))), some (.int (found + mn left (pay * p.1 / 1000) * p.2)), some (.int p.1), some (.int p.2), some (.int (mn left (pay * p.1 / 1000)))] μ) := by
      unfold bodyM
      simp [-dMin2_i, dMin2_m, h1, h2, div_k1]
    show (match bodyM [a0, some (.int pay), a2, some (.int left), some (.int found), some (.int p.1), some (.int p.2), o7] μ with
      | some (.nx ρ2 μ2) => fl (tgTup [tgName 5, tgName 6]) bodyM (rwD ms) ρ2 μ2
      | some (.ct ρ2 μ2) => fl (tgTup [tgName 5, tgName 6]) bodyM (rwD ms) ρ2 μ2
      | some (.bk ρ2 μ2) => some (.nx ρ2 μ2)
      | r => r) = _
    rw [eb]
    dsimp only
    rw [e]
    have : found + gM pay left (p :: ms) = found + mn left (pay * p.1 / 1000) * p.2 + gM pay (left - mn left (pay * p.1 / 1000)) ms := by
      rw [show gM pay left (p :: ms) = mn left (pay * p.1 / 1000) * p.2 + gM pay (left - mn left (pay * p.1 / 1000)) ms from rfl]
      omega
    rw [this]
theorem met_s {own : Int} (P : Po part ms os most) (h : μ[n]? = some (insP part ms os most)) (hp : 0 ≤ pay) (ho : 0 ≤ own) : M_Plan_met_part [.ref n, .int pay, .int own] μ = some (.ok (.int (metV pay own ms)) μ) := by
  have hmn : ¬ mn pay own < 0 := by rw [mn_e]; omega
  obtain ⟨l', q5, q6, q7, e⟩ := met_fl (μ := μ) (pay := pay) (a0 := some (.ref n)) (a2 := some (.int own)) ms P.hms own 0 none none none
  rw [Int.zero_add] at e
  have a2 := (fldP (ρ := [some (.ref n), some (.int pay), some (.int own), some (.int own), some (.int 0), none, none, none]) (i := 0) h rfl).2.1
  have tot : B_Plan_met_part [some (.ref n), some (.int pay), some (.int own), none, none, none, none, none] μ = some (.rt (.int (metV pay own ms)) μ) := by
    unfold B_Plan_met_part
    refine seq_nx (ρ1 := [some (.ref n), some (.int pay), some (.int own), none, none, none, none, none]) (μ1 := μ) (by simp [-dMin2_i, dMin2_m, hmn]) (seq_nx (ρ1 := [some (.ref n), some (.int pay), some (.int own), some (.int own), some (.int 0), none, none, none]) (μ1 := μ) (by simp) (seq_nx (ρ1 := [some (.ref n), some (.int pay), some (.int own), some (.int l'), some (.int (gM pay own ms)), q5, q6, q7]) (μ1 := μ) ?_ ?_))
    · rw [cFor_s, bItemsA_s, a2]
      exact e
    · simp [div_k1, metV]
  unfold M_Plan_met_part
  rw [fnS_s]
  show (match B_Plan_met_part [some (.ref n), some (.int pay), some (.int own), none, none, none, none, none] μ with
    | some (.nx _ μ') => some (Out.ok D.non μ')
    | some (.rt d μ') => if lamf d = true then some (.ok d μ') else none
    | some (.ex c _ μ') => some (.exc c μ')
    | _ => none) = _
  rw [tot]
  simp [lamf]
theorem leastall_s (P : Po part ms os most) (h : μ[n]? = some (insP part ms os most)) (hp : 0 ≤ pay ∧ pay ≤ 100000) :
    ∃ w, M_Plan_least_for_all [.ref n, .int pay] μ = some (.ok (.int w) μ) ∧ (0 ≤ w ∧ w ≤ pay * part / 1000) ∧ metV pay (pay * part / 1000) ms ≤ metV pay w ms ∧ (w = 0 ∨ metV pay (w - 1) ms < metV pay (pay * part / 1000) ms) := by
  have hpart := P.hpart
  have h0 : ¬ pay < 0 := by omega
  have hmu : mulOk pay part = true := mul_small (by omega)
  have hN0 : 0 ≤ pay * part / 1000 := Int.ediv_nonneg (mul_nn hp.1 hpart.1) (by omega)
  have hN1 : pay * part ≤ 100000 * 1000 := Int.mul_le_mul hp.2 hpart.2 hpart.1 (by omega)
  have hN2 : pay * part / 1000 ≤ 100000 := by omega
  have pf1 := (fldP (ρ := [some (.ref n), some (.int pay), none, none, none, none]) (i := 0) h rfl).1
  have MT : ∀ (ρ : En) (i : Nat) (x : Int), ρ[0]? = some (some (.ref n)) → ρ[1]? = some (some (.int pay)) → ρ[i]? = some (some (.int x)) → 0 ≤ x → bMeth T_met_part "met_part" (bVar 0) (bCons (bVar 1) (bCons (bVar i) (bNil))) ρ μ = some (.ok (.int (metV pay x ms)) μ) := fun ρ i x g0 g1 gi hx => by
    rw [methP (n := n) (F := M_Plan_met_part) (ds := [.int pay, .int x]) rfl (by decide) (by simp [g0]) h (by simp [g1, gi]) rfl]
    exact met_s P h hp.1 hx
  generalize hNN : pay * part / 1000 = N at *
  have em := MT [some (.ref n), some (.int pay), some (.int N), none, none, none] 2 N rfl rfl rfl hN0
  generalize hG : metV pay N ms = G at *
  obtain ⟨ρ2, μ2, w2, ⟨w, low, o5, hρ2, hμ2, k1, k2, k3⟩⟩ := wl_meas (t := bTst (bBin dGt (bBin dSub (bVar 2) (bVar 4)) (bCon (.int 1)))) (b := cSeq (cSet 5 (bBin dDiv (bBin dAdd (bVar 4) (bVar 2)) (bCon (.int 2)))) (cIf (bTst (bBin dGe (bMeth T_met_part "met_part" (bVar 0) (bCons (bVar 1) (bCons (bVar 5) (bNil)))) (bVar 3))) (cSet 2 (bVar 5)) (cSet 4 (bVar 5))))
    (fun k ρ ν => ∃ (w low : Int) (o5 : Option D), ρ = [some (.ref n), some (.int pay), some (.int w), some (.int G), some (.int low), o5] ∧ ν = μ ∧ (-1 ≤ low ∧ low < w ∧ w ≤ N) ∧ G ≤ metV pay w ms ∧ (low = -1 ∨ metV pay low ms < G) ∧ w - low ≤ 2 ^ k)
    (fun ρ ν => ∃ (w low : Int) (o5 : Option D), ρ = [some (.ref n), some (.int pay), some (.int w), some (.int G), some (.int low), o5] ∧ ν = μ ∧ (-1 ≤ low ∧ low + 1 = w ∧ w ≤ N) ∧ G ≤ metV pay w ms ∧ (low = -1 ∨ metV pay low ms < G)) (fun k ρ ν ⟨w, low, o5, e, hν, ⟨a1, a2, a3⟩, a4, a5, a6⟩ => by
      subst e hν
      by_cases hc : 1 < w - low
      · refine .inl ⟨ν, by simp [hc], ?_⟩
        cases k with
        | zero =>
          have : (2 : Int) ^ 0 = 1 := by decide
          omega
        | succ k =>
          have hm0 : low < (low + w) / 2 ∧ (low + w) / 2 < w := by omega
          have ey := MT [some (.ref n), some (.int pay), some (.int w), some (.int G), some (.int low), some (.int ((low + w) / 2))] 5 ((low + w) / 2) rfl rfl rfl (by omega)
          have hd : divOk (low + w) 2 = true := by simp [divOk]
          have h6 : (2 : Int) ^ (k + 1) = 2 ^ k * 2 := Int.pow_succ 2 k
          by_cases hg' : G ≤ metV pay ((low + w) / 2) ms
          · exact ⟨k, [some (.ref n), some (.int pay), some (.int ((low + w) / 2)), some (.int G), some (.int low), some (.int ((low + w) / 2))], ν, Nat.lt_succ_self k, by simp [ey, hd, hg'], (low + w) / 2, low, _, rfl, rfl, ⟨a1, hm0.1, by omega⟩, hg', a5, by omega⟩
          · exact ⟨k, [some (.ref n), some (.int pay), some (.int w), some (.int G), some (.int ((low + w) / 2)), some (.int ((low + w) / 2))], ν, Nat.lt_succ_self k, by simp [ey, hd, hg'], w, (low + w) / 2, _, rfl, rfl, ⟨by omega, hm0.2, a3⟩, a4, .inr (by omega), by omega⟩
      · exact .inr ⟨ν, by simp [hc], w, low, o5, rfl, rfl, ⟨a1, by omega, a3⟩, a4, a5⟩) 1000 40 (by omega) [some (.ref n), some (.int pay), some (.int N), some (.int G), some (.int (-1)), none] μ ⟨N, -1, none, rfl, rfl, ⟨by omega, by omega, by omega⟩, by omega, .inl rfl, by
        have : (2 : Int) ^ 40 = 1099511627776 := by decide
        omega⟩
  subst hρ2 hμ2
  refine ⟨w, ?_, ⟨by omega, k1.2.2⟩, k2, ?_⟩
  · have tot : B_Plan_least_for_all [some (.ref n), some (.int pay), none, none, none, none] μ2 = some (.rt (.int w) μ2) := by
      unfold B_Plan_least_for_all
      refine seq_nx (ρ1 := [some (.ref n), some (.int pay), none, none, none, none]) (μ1 := μ2) (by simp [h0]) (seq_nx (ρ1 := [some (.ref n), some (.int pay), some (.int N), none, none, none]) (μ1 := μ2) (by simp [pf1, hmu, div_k1, hNN]) (seq_nx (ρ1 := [some (.ref n), some (.int pay), some (.int N), some (.int G), some (.int (-1)), none]) (μ1 := μ2) (by simp [em]) (seq_nx (ρ1 := [some (.ref n), some (.int pay), some (.int w), some (.int G), some (.int low), o5]) (μ1 := μ2) (by rw [cWhile_s]; exact w2) (by simp))))
    unfold M_Plan_least_for_all
    rw [fnS_s]
    show (match B_Plan_least_for_all [some (.ref n), some (.int pay), none, none, none, none] μ2 with
      | some (.nx _ μ') => some (Out.ok D.non μ')
      | some (.rt d μ') => if lamf d = true then some (.ok d μ') else none
      | some (.ex c _ μ') => some (.exc c μ')
      | _ => none) = _
    rw [tot]
    simp [lamf]
  · rcases k3 with k3 | k3
    · exact .inl (by omega)
    · have : w - 1 = low := by omega
      rw [this]
      exact .inr k3
theorem share_s {y : Int} (P : Po part ms os most) (h : μ[n]? = some (insP part ms os most)) (hy : 0 ≤ y) : M_Plan_owned_share [.ref n, .int y] μ = some (.ok (.int (R os y)) μ) := by
  have h0 : ¬ y < 0 := by omega
  have hlen := P.wb.len
  have a3 := (fldP (ρ := [some (.ref n), some (.int y), none, none]) (i := 0) h rfl).2.2.1
  have ec := cl_R (bs := os) (ρ := [some (.ref n), some (.int y), none, none]) (μ := μ) (a := 2) (b := 3) (c := 1) (v := y) (by omega) (by simp) (by simp) (by decide) (by decide) (by decide) rfl
  have ea := at_R P.wb hy
  have e6 : bComp [2, 3] (bItemsA (bFld C_owned "owned" (bVar 0))) (tgTup [tgName 2, tgName 3]) (bTst (bBin dLe (bVar 2) (bVar 1))) (bVar 3) [some (.ref n), some (.int y), none, none] μ = some (.ok (.lst (((os.filter fun p => decide (p.1 ≤ y)).map (·.2)).map .int)) μ) := by
    rw [bComp_s, bItemsA_s, a3]
    simp only [ob]
    rw [show wipeD [some (D.ref n), some (D.int y), none, none] [2, 3] = [some (.ref n), some (.int y), none, none] from rfl, ec]
  have tot : B_Plan_owned_share [some (.ref n), some (.int y), none, none] μ = some (.rt (.int (R os y)) μ) := by
    unfold B_Plan_owned_share
    refine seq_nx (ρ1 := [some (.ref n), some (.int y), none, none]) (μ1 := μ) (by simp [h0]) ?_
    rw [cRet_s, bBin_s, e6]
    simp only [ob, bNeg_s, bCon_s]
    rw [dIxA_l, ea]
    rfl
  unfold M_Plan_owned_share
  rw [fnS_s]
  show (match B_Plan_owned_share [some (.ref n), some (.int y), none, none] μ with
    | some (.nx _ μ') => some (Out.ok D.non μ')
    | some (.rt d μ') => if lamf d = true then some (.ok d μ') else none
    | some (.ex c _ μ') => some (.exc c μ')
    | _ => none) = _
  rw [tot]
  simp [lamf]
end
end K10

set_option linter.all false
set_option maxRecDepth 100000
set_option maxHeartbeats 4000000
namespace K10
open PySem Mi L2 Mw
theorem cFld_ref {cs : List Str} {f c : Str} {fo fv : Cb D} {ρ : En} {μ : Sto} {n : Nat} {fs ks : List Str} {xs ys : List D} {d : D} (hv : fv ρ μ = some (.ok d μ)) (ho : fo ρ μ = some (.ok (.ref n) μ)) (h : μ[n]? = some (.ins c fs xs)) (hc : c ∈ cs) (hl : lamf d = true) (hz : fs.length < 1000) (hp : putD fs xs f d = (ks, ys)) :
    cFld cs f fo fv ρ μ = some (.nx ρ (μ.set n (.ins c ks ys))) := by
  unfold cFld
  rw [hv]
  simp only [obS, ho]
  unfold fldPut insD
  simp only [h, hc, hz, hl, and_self, if_true, hp]
theorem cFldAug_ref {cs : List Str} {f c : Str} {fo fv : Cb D} {o : Sto → D → D → Option (D × Sto)} {ρ : En} {μ : Sto} {n : Nat} {fs ks : List Str} {xs ys : List D} {v d z : D} (ho : fo ρ μ = some (.ok (.ref n) μ)) (h : μ[n]? = some (.ins c fs xs)) (hc : c ∈ cs) (hk : lkD fs xs f = some v) (hv : fv ρ μ = some (.ok d μ)) (hop : o μ v d = some (z, μ)) (hl : lamf z = true) (hz : fs.length < 1000) (hp : putD fs xs f z = (ks, ys)) :
    cFldAug cs f fo o fv ρ μ = some (.nx ρ (μ.set n (.ins c ks ys))) := by
  unfold cFldAug
  rw [ho]
  simp only [obS]
  unfold insD
  simp only [h, hc, if_true, hk, hv, obS, hop]
  unfold fldPut insD
  simp only [h, hz, hl, and_self, if_true, hp, List.mem_singleton]
def insQ (pl : Nat) (o h l y : Int) : SO := .ins "Pot" ["plan", "own", "house", "laid", "years"] [.ref pl, .int o, .int h, .int l, .int y]
section
variable {μ : Sto} {m n : Nat} {part most pay o h l y : Int} {ms os : Rows}
theorem qinit_s (hm : μ[m]? = some (.ins "Pot" [] [])) : M_Pot___init__ [.ref m, .ref n] μ = some (.ok .non (μ.set m (insQ n 0 0 0 0))) := by
  have hml : m < μ.length := (List.getElem?_eq_some_iff.mp hm).1
  have hg : ∀ x, (μ.set m x)[m]? = some x := fun x => List.getElem?_set_self hml
  have f1 := cFld_ref (cs := C_plan) (f := "plan") (fo := bVar 0) (fv := bVar 1) (ρ := [some (.ref m), some (.ref n)]) (ks := ["plan"]) (ys := [.ref n]) (by simp) (by simp) hm (by simp) rfl (by simp) rfl
  have f2 := cFld_ref (cs := C_own) (f := "own") (fo := bVar 0) (fv := bCon (.int 0)) (ρ := [some (.ref m), some (.ref n)]) (ks := ["plan", "own"]) (ys := [.ref n, .int 0]) (by simp) (by simp) (hg (.ins "Pot" ["plan"] [.ref n])) (by simp) rfl (by simp) rfl
  have f3 := cFld_ref (cs := C_house) (f := "house") (fo := bVar 0) (fv := bCon (.int 0)) (ρ := [some (.ref m), some (.ref n)]) (ks := ["plan", "own", "house"]) (ys := [.ref n, .int 0, .int 0]) (by simp) (by simp) (hg (.ins "Pot" ["plan", "own"] [.ref n, .int 0])) (by simp) rfl (by simp) rfl
  have f4 := cFld_ref (cs := C_laid) (f := "laid") (fo := bVar 0) (fv := bCon (.int 0)) (ρ := [some (.ref m), some (.ref n)]) (ks := ["plan", "own", "house", "laid"]) (ys := [.ref n, .int 0, .int 0, .int 0]) (by simp) (by simp) (hg (.ins "Pot" ["plan", "own", "house"] [.ref n, .int 0, .int 0])) (by simp) rfl (by simp) rfl
  have f5 := cFld_ref (cs := C_years) (f := "years") (fo := bVar 0) (fv := bCon (.int 0)) (ρ := [some (.ref m), some (.ref n)]) (ks := ["plan", "own", "house", "laid", "years"]) (ys := [.ref n, .int 0, .int 0, .int 0, .int 0]) (by simp) (by simp) (hg (.ins "Pot" ["plan", "own", "house", "laid"] [.ref n, .int 0, .int 0, .int 0])) (by simp) rfl (by simp) rfl
  rw [List.set_set] at f2 f3 f4 f5
  have tot : B_Pot___init__ [some (.ref m), some (.ref n)] μ = some (.nx [some (.ref m), some (.ref n)] (μ.set m (insQ n 0 0 0 0))) := by
    unfold B_Pot___init__
    exact seq_nx f1 (seq_nx f2 (seq_nx f3 (seq_nx f4 f5)))
  unfold M_Pot___init__
  rw [fnS_s]
  show (match B_Pot___init__ [some (.ref m), some (.ref n)] μ with
    | some (.nx _ μ') => some (Out.ok D.non μ')
    | some (.rt d μ') => if lamf d = true then some (.ok d μ') else none
    | some (.ex c _ μ') => some (.exc c μ')
    | _ => none) = _
  rw [tot]
theorem qmake_s {ρ : En} {fs : Cb (List D)} {μ0 : Sto} (hfs : fs ρ μ0 = some (.ok [.ref n] μ)) : bMake "Pot" M_Pot___init__ fs ρ μ0 = some (.ok (.ref μ.length) (μ ++ [insQ n 0 0 0 0])) := by
  have hl : lamfs [.ref n] = true := rfl
  unfold bMake
  rw [hfs]
  simp only [ob, hl, if_true]
  rw [qinit_s get_last, set_last]
theorem fldQ {ρ : En} {i : Nat} (hq : μ[m]? = some (insQ n o h l y)) (hr : ρ[i]? = some (some (.ref m))) :
    bFld C_plan "plan" (bVar i) ρ μ = some (.ok (.ref n) μ) ∧ bFld C_own "own" (bVar i) ρ μ = some (.ok (.int o) μ) ∧ bFld C_house "house" (bVar i) ρ μ = some (.ok (.int h) μ) ∧ bFld C_laid "laid" (bVar i) ρ μ = some (.ok (.int l) μ) ∧ bFld C_years "years" (bVar i) ρ μ = some (.ok (.int y) μ) :=
  ⟨bFld_ref (by simp [hr]) hq (by simp) rfl, bFld_ref (by simp [hr]) hq (by simp) rfl, bFld_ref (by simp [hr]) hq (by simp) rfl, bFld_ref (by simp [hr]) hq (by simp) rfl, bFld_ref (by simp [hr]) hq (by simp) rfl⟩
theorem methQ {F : FnS} {tab : List (Str × FnS)} {mm : Str} {fo : Cb D} {fs : Cb (List D)} {ds : List D} {ρ : En} {μ2 : Sto} (ht : tab.lookup ("Pot" : Str) = some F) (hm : mm ∉ (["plan", "own", "house", "laid", "years"] : List Str)) (hi : fo ρ μ = some (.ok (.ref m) μ)) (hq : μ[m]? = some (insQ n o h l y)) (hfs : fs ρ μ = some (.ok ds μ2)) (hl : lamfs ds = true) :
    bMeth tab mm fo fs ρ μ = F (.ref m :: ds) μ2 := bMeth_ref hi hq ht hm hfs hl
theorem meth0Q {F : FnS} {tab : List (Str × FnS)} {mm : Str} {fo : Cb D} {ρ : En} (ht : tab.lookup ("Pot" : Str) = some F) (hm : mm ∉ (["plan", "own", "house", "laid", "years"] : List Str)) (hi : fo ρ μ = some (.ok (.ref m) μ)) (hq : μ[m]? = some (insQ n o h l y)) :
    bMeth tab mm fo bNil ρ μ = F [.ref m] μ := bMeth_ref hi hq ht hm (by simp) rfl
theorem payin_s {mine : Int} (P : Po part ms os most) (hp : μ[n]? = some (insP part ms os most)) (hq : μ[m]? = some (insQ n o h l y)) (h0 : 0 ≤ pay) (h1 : 0 ≤ mine) (h2 : 0 ≤ l) :
    M_Pot_pay_in [.ref m, .int pay, .int mine] μ = some (.ok (.tup [.int (ownV part most pay mine l), .int (metV pay (ownV part most pay mine l) ms)]) (μ.set m (insQ n (o + ownV part most pay mine l) (h + metV pay (ownV part most pay mine l) ms) (l + ownV part most pay mine l) y))) := by
  have hml : m < μ.length := (List.getElem?_eq_some_iff.mp hq).1
  have hg : ∀ x, (μ.set m x)[m]? = some x := fun x => List.getElem?_set_self hml
  have e1 := own_s P hp h0 h1 h2
  have hov : 0 ≤ ownV part most pay mine l := by unfold ownV; rw [mx_e]; omega
  generalize ownV part most pay mine l = ow at *
  have e2 := met_s P hp h0 hov
  generalize metV pay ow ms = mt at *
  have q1 := fldQ (ρ := [some (.ref m), some (.int pay), some (.int mine), none, none]) (i := 0) hq rfl
  have q2 := fldQ (ρ := [some (.ref m), some (.int pay), some (.int mine), some (.int ow), none]) (i := 0) hq rfl
  have s1 : cSet 3 (bMeth T_own_part "own_part" (bFld C_plan "plan" (bVar 0)) (bCons (bVar 1) (bCons (bVar 2) (bCons (bFld C_laid "laid" (bVar 0)) (bNil))))) [some (.ref m), some (.int pay), some (.int mine), none, none] μ = some (.nx [some (.ref m), some (.int pay), some (.int mine), some (.int ow), none] μ) := by
    rw [cSet_s, methP (F := M_Plan_own_part) (ds := [.int pay, .int mine, .int l]) rfl (by decide) q1.1 hp (by
      rw [bCons_s]
      simp only [bVar_s, List.getElem?_cons_succ, List.getElem?_cons_zero, ob]
      rw [bCons_s]
      simp only [bVar_s, List.getElem?_cons_succ, List.getElem?_cons_zero, ob]
      rw [bCons_s, q1.2.2.2.1]
      simp) rfl, e1]
    rfl
  have s2 : cSet 4 (bMeth T_met_part "met_part" (bFld C_plan "plan" (bVar 0)) (bCons (bVar 1) (bCons (bVar 3) (bNil)))) [some (.ref m), some (.int pay), some (.int mine), some (.int ow), none] μ = some (.nx [some (.ref m), some (.int pay), some (.int mine), some (.int ow), some (.int mt)] μ) := by
    rw [cSet_s, methP (F := M_Plan_met_part) (ds := [.int pay, .int ow]) rfl (by decide) q2.1 hp (by simp) rfl, e2]
    rfl
  have a1 := cFldAug_ref (cs := C_own) (f := "own") (fo := bVar 0) (o := dIAdd) (fv := bVar 3) (ρ := [some (.ref m), some (.int pay), some (.int mine), some (.int ow), some (.int mt)]) (d := .int ow) (z := .int (o + ow)) (ks := ["plan", "own", "house", "laid", "years"]) (ys := [.ref n, .int (o + ow), .int h, .int l, .int y]) (by simp) hq (by simp) (v := .int o) rfl (by simp) (by simp) rfl (by simp) rfl
  have a2 := cFldAug_ref (cs := C_laid) (f := "laid") (fo := bVar 0) (o := dIAdd) (fv := bVar 3) (ρ := [some (.ref m), some (.int pay), some (.int mine), some (.int ow), some (.int mt)]) (d := .int ow) (z := .int (l + ow)) (ks := ["plan", "own", "house", "laid", "years"]) (ys := [.ref n, .int (o + ow), .int h, .int (l + ow), .int y]) (by simp) (hg (insQ n (o + ow) h l y)) (by simp) (v := .int l) rfl (by simp) (by simp) rfl (by simp) rfl
  have a3 := cFldAug_ref (cs := C_house) (f := "house") (fo := bVar 0) (o := dIAdd) (fv := bVar 4) (ρ := [some (.ref m), some (.int pay), some (.int mine), some (.int ow), some (.int mt)]) (d := .int mt) (z := .int (h + mt)) (ks := ["plan", "own", "house", "laid", "years"]) (ys := [.ref n, .int (o + ow), .int (h + mt), .int (l + ow), .int y]) (by simp) (hg (insQ n (o + ow) h (l + ow) y)) (by simp) (v := .int h) rfl (by simp) (by simp) rfl (by simp) rfl
  rw [List.set_set] at a2 a3
  have tot : B_Pot_pay_in [some (.ref m), some (.int pay), some (.int mine), none, none] μ = some (.rt (.tup [.int ow, .int mt]) (μ.set m (insQ n (o + ow) (h + mt) (l + ow) y))) := by
    unfold B_Pot_pay_in
    exact seq_nx s1 (seq_nx s2 (seq_nx a1 (seq_nx a2 (seq_nx a3 (by simp; rfl)))))
  unfold M_Pot_pay_in
  rw [fnS_s]
  show (match B_Pot_pay_in [some (.ref m), some (.int pay), some (.int mine), none, none] μ with
    | some (.nx _ μ') => some (Out.ok D.non μ')
    | some (.rt d μ') => if lamf d = true then some (.ok d μ') else none
    | some (.ex c _ μ') => some (.exc c μ')
    | _ => none) = _
  rw [tot]
  simp [lamf, lamfs]
theorem grow_s {p : Int} (hq : μ[m]? = some (insQ n o h l y)) (hp : -10000 ≤ p ∧ p < 1000000) :
    M_Pot_grow_by [.ref m, .int p] μ = some (.ok (.int (o * p / 10000 + h * p / 10000)) (μ.set m (insQ n (o + o * p / 10000) (h + h * p / 10000) l y))) := by
  have hml : m < μ.length := (List.getElem?_eq_some_iff.mp hq).1
  have hg : ∀ x, (μ.set m x)[m]? = some x := fun x => List.getElem?_set_self hml
  have q1 := fldQ (ρ := [some (.ref m), some (.int p), none, none]) (i := 0) hq rfl
  have hc : ¬ p < -10000 := by omega
  have hm1 : mulOk o p = true := mul_small (by omega)
  have hm2 : mulOk h p = true := mul_small (by omega)
  have s1 : cIf (bTst (bBin dLt (bVar 1) (bBin dSub (bCon (.int 0)) (bCon (.int 10000))))) (cRaise "PensionError") (cNop) [some (.ref m), some (.int p), none, none] μ = some (.nx [some (.ref m), some (.int p), none, none] μ) := by simp [hc]
  have s2 : cPar2 2 3 (bCons (bBin dDiv (bBin dMulA (bFld C_own "own" (bVar 0)) (bVar 1)) (bCon (.int 10000))) (bCons (bBin dDiv (bBin dMulA (bFld C_house "house" (bVar 0)) (bVar 1)) (bCon (.int 10000))) (bNil))) [some (.ref m), some (.int p), none, none] μ = some (.nx [some (.ref m), some (.int p), some (.int (o * p / 10000)), some (.int (h * p / 10000))] μ) := by
    rw [cPar2_s]
    simp [q1, hm1, hm2, div_k]
  have a1 := cFldAug_ref (cs := C_own) (f := "own") (fo := bVar 0) (o := dIAdd) (fv := bVar 2) (ρ := [some (.ref m), some (.int p), some (.int (o * p / 10000)), some (.int (h * p / 10000))]) (d := .int (o * p / 10000)) (z := .int (o + o * p / 10000)) (ks := ["plan", "own", "house", "laid", "years"]) (ys := [.ref n, .int (o + o * p / 10000), .int h, .int l, .int y]) (by simp) hq (by simp) (v := .int o) rfl (by simp) (by simp) rfl (by simp) rfl
  have a3 := cFldAug_ref (cs := C_house) (f := "house") (fo := bVar 0) (o := dIAdd) (fv := bVar 3) (ρ := [some (.ref m), some (.int p), some (.int (o * p / 10000)), some (.int (h * p / 10000))]) (d := .int (h * p / 10000)) (z := .int (h + h * p / 10000)) (ks := ["plan", "own", "house", "laid", "years"]) (ys := [.ref n, .int (o + o * p / 10000), .int (h + h * p / 10000), .int l, .int y]) (by simp) (hg (insQ n (o + o * p / 10000) h l y)) (by simp) (v := .int h) rfl (by simp) (by simp) rfl (by simp) rfl
  rw [List.set_set] at a3
  have tot : B_Pot_grow_by [some (.ref m), some (.int p), none, none] μ = some (.rt (.int (o * p / 10000 + h * p / 10000)) (μ.set m (insQ n (o + o * p / 10000) (h + h * p / 10000) l y))) := by
    unfold B_Pot_grow_by
    exact seq_nx s1 (seq_nx s2 (seq_nx a1 (seq_nx a3 (by simp; rfl))))
  unfold M_Pot_grow_by
  rw [fnS_s]
  show (match B_Pot_grow_by [some (.ref m), some (.int p), none, none] μ with
    | some (.nx _ μ') => some (Out.ok D.non μ')
    | some (.rt d μ') => if lamf d = true then some (.ok d μ') else none
    | some (.ex c _ μ') => some (.exc c μ')
    | _ => none) = _
  rw [tot]
  simp [lamf]
theorem begin_s (hq : μ[m]? = some (insQ n o h l y)) : M_Pot_begin_year [.ref m] μ = some (.ok .non (μ.set m (insQ n o h 0 (y + 1)))) := by
  have hml : m < μ.length := (List.getElem?_eq_some_iff.mp hq).1
  have hg : ∀ x, (μ.set m x)[m]? = some x := fun x => List.getElem?_set_self hml
  have f1 := cFld_ref (cs := C_laid) (f := "laid") (fo := bVar 0) (fv := bCon (.int 0)) (ρ := [some (.ref m)]) (ks := ["plan", "own", "house", "laid", "years"]) (ys := [.ref n, .int o, .int h, .int 0, .int y]) (by simp) (by simp) hq (by simp) rfl (by simp) rfl
  have a1 := cFldAug_ref (cs := C_years) (f := "years") (fo := bVar 0) (o := dIAdd) (fv := bCon (.int 1)) (ρ := [some (.ref m)]) (d := .int 1) (z := .int (y + 1)) (ks := ["plan", "own", "house", "laid", "years"]) (ys := [.ref n, .int o, .int h, .int 0, .int (y + 1)]) (by simp) (hg (insQ n o h 0 y)) (by simp) (v := .int y) rfl (by simp) (by simp) rfl (by simp) rfl
  rw [List.set_set] at a1
  have tot : B_Pot_begin_year [some (.ref m)] μ = some (.nx [some (.ref m)] (μ.set m (insQ n o h 0 (y + 1)))) := by
    unfold B_Pot_begin_year
    exact seq_nx f1 a1
  unfold M_Pot_begin_year
  rw [fnS_s]
  show (match B_Pot_begin_year [some (.ref m)] μ with
    | some (.nx _ μ') => some (Out.ok D.non μ')
    | some (.rt d μ') => if lamf d = true then some (.ok d μ') else none
    | some (.ex c _ μ') => some (.exc c μ')
    | _ => none) = _
  rw [tot]
def ownedV (os : Rows) (o h y : Int) : Int := o + h * R os y / 1000
theorem owned_s (P : Po part ms os most) (hp : μ[n]? = some (insP part ms os most)) (hq : μ[m]? = some (insQ n o h l y)) (hy : 0 ≤ y) : M_Pot_owned_now [.ref m] μ = some (.ok (.int (ownedV os o h y)) μ) := by
  have q1 := fldQ (ρ := [some (.ref m)]) (i := 0) hq rfl
  have hR := P.wb.R y
  have e1 : bMeth T_owned_share "owned_share" (bFld C_plan "plan" (bVar 0)) (bCons (bFld C_years "years" (bVar 0)) (bNil)) [some (.ref m)] μ = some (.ok (.int (R os y)) μ) := by
    rw [methP (F := M_Plan_owned_share) (ds := [.int y]) rfl (by decide) q1.1 hp (by rw [bCons_s, q1.2.2.2.2]; simp) rfl]
    exact share_s P hp hy
  have hm : mulOk h (R os y) = true := mul_small (by omega)
  have tot : B_Pot_owned_now [some (.ref m)] μ = some (.rt (.int (ownedV os o h y)) μ) := by
    unfold B_Pot_owned_now
    rw [cRet_s, bBin_s, q1.2.1]
    simp only [ob]
    rw [bBin_s, bBin_s, q1.2.2.1]
    simp only [ob]
    rw [e1]
    simp [hm, div_k1, ownedV]
  unfold M_Pot_owned_now
  rw [fnS_s]
  show (match B_Pot_owned_now [some (.ref m)] μ with
    | some (.nx _ μ') => some (Out.ok D.non μ')
    | some (.rt d μ') => if lamf d = true then some (.ok d μ') else none
    | some (.ex c _ μ') => some (.exc c μ')
    | _ => none) = _
  rw [tot]
  simp [lamf]
theorem leave_s (P : Po part ms os most) (hp : μ[n]? = some (insP part ms os most)) (hq : μ[m]? = some (insQ n o h l y)) (hy : 0 ≤ y) :
    M_Pot_leave_now [.ref m] μ = some (.ok (.tup [.int (ownedV os o h y), .int (o + h - ownedV os o h y)]) (μ.set m (insQ n 0 0 l y))) := by
  have hml : m < μ.length := (List.getElem?_eq_some_iff.mp hq).1
  have hg : ∀ x, (μ.set m x)[m]? = some x := fun x => List.getElem?_set_self hml
  have q1 := fldQ (ρ := [some (.ref m), none]) (i := 0) hq rfl
  have e1 : bMeth T_owned_now "owned_now" (bVar 0) bNil [some (.ref m), none] μ = some (.ok (.int (ownedV os o h y)) μ) := by
    rw [meth0Q (F := M_Pot_owned_now) rfl (by decide) (by simp) hq]
    exact owned_s P hp hq hy
  generalize ownedV os o h y = ov at *
  have s1 : cSet 1 (bTup (bCons (bMeth T_owned_now "owned_now" (bVar 0) bNil) (bCons (bBin dSub (bBin dAdd (bFld C_own "own" (bVar 0)) (bFld C_house "house" (bVar 0))) (bMeth T_owned_now "owned_now" (bVar 0) bNil)) (bNil)))) [some (.ref m), none] μ = some (.nx [some (.ref m), some (.tup [.int ov, .int (o + h - ov)])] μ) := by
    rw [cSet_s, bTup_s, bCons_s, e1]
    simp only [ob]
    rw [bCons_s, bBin_s, bBin_s, q1.2.1]
    simp only [ob]
    rw [q1.2.2.1]
    simp only [ob, dAdd_i, rt]
    rw [e1]
    simp
  have f1 := cFld_ref (cs := C_own) (f := "own") (fo := bVar 0) (fv := bCon (.int 0)) (ρ := [some (.ref m), some (.tup [.int ov, .int (o + h - ov)])]) (ks := ["plan", "own", "house", "laid", "years"]) (ys := [.ref n, .int 0, .int h, .int l, .int y]) (by simp) (by simp) hq (by simp) rfl (by simp) rfl
  have f2 := cFld_ref (cs := C_house) (f := "house") (fo := bVar 0) (fv := bCon (.int 0)) (ρ := [some (.ref m), some (.tup [.int ov, .int (o + h - ov)])]) (ks := ["plan", "own", "house", "laid", "years"]) (ys := [.ref n, .int 0, .int 0, .int l, .int y]) (by simp) (by simp) (hg (insQ n 0 h l y)) (by simp) rfl (by simp) rfl
  rw [List.set_set] at f2
  have tot : B_Pot_leave_now [some (.ref m), none] μ = some (.rt (.tup [.int ov, .int (o + h - ov)]) (μ.set m (insQ n 0 0 l y))) := by
    unfold B_Pot_leave_now
    exact seq_nx s1 (seq_nx f1 (seq_nx f2 (by simp; rfl)))
  unfold M_Pot_leave_now
  rw [fnS_s]
  show (match B_Pot_leave_now [some (.ref m), none] μ with
    | some (.nx _ μ') => some (Out.ok D.non μ')
    | some (.rt d μ') => if lamf d = true then some (.ok d μ') else none
    | some (.ex c _ μ') => some (.exc c μ')
    | _ => none) = _
  rw [tot]
  simp [lamf, lamfs]
theorem take_s {money : Int} (hq : μ[m]? = some (insQ n o h l y)) : M_Pot_take_out [.ref m, .int money] μ = if 0 < money ∧ money ≤ o then some (.ok .non (μ.set m (insQ n (o - money) h l y))) else some (.exc "PensionError" μ) := by
  have q1 := fldQ (ρ := [some (.ref m), some (.int money)]) (i := 0) hq rfl
  have a1 := cFldAug_ref (cs := C_own) (f := "own") (fo := bVar 0) (o := dISub) (fv := bVar 1) (ρ := [some (.ref m), some (.int money)]) (d := .int money) (z := .int (o - money)) (ks := ["plan", "own", "house", "laid", "years"]) (ys := [.ref n, .int (o - money), .int h, .int l, .int y]) (by simp) hq (by simp) (v := .int o) rfl (by simp) (by simp) rfl (by simp) rfl
  unfold M_Pot_take_out
  rw [fnS_s]
  show (match B_Pot_take_out [some (.ref m), some (.int money)] μ with
    | some (.nx _ μ') => some (Out.ok D.non μ')
    | some (.rt d μ') => if lamf d = true then some (.ok d μ') else none
    | some (.ex c _ μ') => some (.exc c μ')
    | _ => none) = _
  unfold B_Pot_take_out
  by_cases hc : 0 < money ∧ money ≤ o
  · rw [if_pos hc]
    have h1 : 1 ≤ money := by omega
    have s1 : cIf (bNotT (bTst (bChain dLe dLe (bCon (.int 1)) (bVar 1) (bFld C_own "own" (bVar 0))))) (cRaise "PensionError") (cNop) [some (.ref m), some (.int money)] μ = some (.nx [some (.ref m), some (.int money)] μ) := by
      simp [q1, h1, hc.2]
    rw [seq_nx s1 a1]
    rfl
  · rw [if_neg hc]
    have s1 : cIf (bNotT (bTst (bChain dLe dLe (bCon (.int 1)) (bVar 1) (bFld C_own "own" (bVar 0))))) (cRaise "PensionError") (cNop) [some (.ref m), some (.int money)] μ = some (.ex "PensionError" [some (.ref m), some (.int money)] μ) := by
      by_cases h1 : 1 ≤ money
      · have h2 : ¬ money ≤ o := fun z => hc ⟨by omega, z⟩
        simp [q1, h1, h2]
      · simp [q1, h1]
    rw [cSeq_s, s1]
end
end K10

set_option linter.all false
set_option maxRecDepth 100000
set_option maxHeartbeats 4000000
namespace K10
open PySem Mi L2 Mw
def st0 : Cs := cAsg (bTup (bCons (bCallM hRoll (bCons (bVar 1) (bCons (bCon (.int 300)) (bNil)))) (bCons (bCallM hRoll (bCons (bVar 1) (bCons (bCon (.int 900)) (bNil)))) (bCons (bLst (bCons (bTup (bCons (bCon (.int 0)) (bCons (bCallM hRoll (bCons (bVar 1) (bCons (bCon (.int 400)) (bNil)))) (bNil)))) (bNil))) (bNil))))) (tgTup [tgName 8, tgName 9, tgName 10])
def st1 : Cs := cSet 2 (bComp [3] (bRng1 (bCons (bCallM hRoll (bCons (bVar 1) (bCons (bCon (.int 3)) (bNil)))) (bNil))) (tgName 3) (bYes) (bTup (bCons (bCallM hRoll (bCons (bVar 1) (bCons (bCon (.int 80)) (bNil)))) (bCons (bCallM hRoll (bCons (bVar 1) (bCons (bCon (.int 2001)) (bNil)))) (bNil)))))
def st2 : Cs := cFor (bRng1 (bCons (bCallM hRoll (bCons (bVar 1) (bCons (bCon (.int 3)) (bNil)))) (bNil))) (tgName 3) (cSet 10 (bBin dAdd (bVar 10) (bLst (bCons (bTup (bCons (bBin dAdd (bBin dAdd (bBin dIxA (bBin dIxA (bVar 10) (bNeg (bCon (.int 1)))) (bCon (.int 0))) (bCon (.int 1))) (bCallM hRoll (bCons (bVar 1) (bCons (bCon (.int 2)) (bNil))))) (bCons (bFn dMin2 (bCons (bCon (.int 1000)) (bCons (bBin dAdd (bBin dIxA (bBin dIxA (bVar 10) (bNeg (bCon (.int 1)))) (bCon (.int 1))) (bCallM hRoll (bCons (bVar 1) (bCons (bCon (.int 400)) (bNil))))) (bNil)))) (bNil)))) (bNil)))))
def st3 : Cs := cSet 4 (bMake "Plan" M_Plan___init__ (bCons (bVar 8) (bCons (bVar 2) (bCons (bVar 10) (bCons (bVar 9) (bNil))))))
def st4 : Cs := cAsg (bTup (bCons (bCallM hRoll (bCons (bVar 1) (bCons (bCon (.int 2000)) (bNil)))) (bCons (bCallM hRoll (bCons (bVar 1) (bCons (bCon (.int 400)) (bNil)))) (bCons (bCallM hRoll (bCons (bVar 1) (bCons (bCon (.int 900)) (bNil)))) (bNil))))) (tgTup [tgName 11, tgName 12, tgName 13])
def st5 : Cs := cSet 5 (bFn dMax2 (bCons (bCon (.int 0)) (bCons (bFn dMin2 (bCons (bBin dDiv (bBin dMulA (bVar 11) (bFn dMin2 (bCons (bVar 12) (bCons (bVar 8) (bNil))))) (bCon (.int 1000))) (bCons (bBin dSub (bVar 9) (bVar 13)) (bNil)))) (bNil))))
def st6 : Cs := cSet 6 (bComp [23] (bRng1 (bCons (bBin dAdd (bBin dDiv (bBin dMulA (bVar 11) (bVar 8)) (bCon (.int 1000))) (bCon (.int 1))) (bNil))) (tgName 23) (bYes) (bCallP M__law_met (bCons (bVar 2) (bCons (bVar 11) (bCons (bVar 23) (bNil))))))
def st7 : Cs := cIf (bOrT (bTst (bBin dNeA (bMeth T_own_part "own_part" (bVar 4) (bCons (bVar 11) (bCons (bVar 12) (bCons (bVar 13) (bNil))))) (bVar 5))) (bOrT (bTst (bBin dNeA (bComp [23] (bRng3 (bCons (bCon (.int 0)) (bCons (bFn dLenA (bCons (bVar 6) (bNil))) (bCons (bCon (.int 7)) (bNil))))) (tgName 23) (bYes) (bMeth T_met_part "met_part" (bVar 4) (bCons (bVar 11) (bCons (bVar 23) (bNil))))) (bSl3 (bVar 6) (bNoPart) (bNoPart) (bPart (bCon (.int 7)))))) (bOrT (bTst (bBin dNeA (bMeth T_least_for_all "least_for_all" (bVar 4) (bCons (bVar 11) (bNil))) (bIdxM (bVar 6) (bFn dMaxL (bCons (bVar 6) (bNil)))))) (bTst (bBin dNeA (bComp [19] (bRng1 (bCons (bCon (.int 10)) (bNil))) (tgName 19) (bYes) (bMeth T_owned_share "owned_share" (bVar 4) (bCons (bVar 19) (bNil)))) (bComp [19] (bRng1 (bCons (bCon (.int 10)) (bNil))) (tgName 19) (bYes) (bBin dIxA (bComp [21, 23] (bItemsA (bVar 10)) (tgTup [tgName 21, tgName 23]) (bTst (bBin dLe (bVar 21) (bVar 19))) (bVar 23)) (bNeg (bCon (.int 1)))))))))) (cRet (bCon (.bl false))) (cNop)
def st8 : Cs := cAsg (bTup (bCons (bMake "Pot" M_Pot___init__ (bCons (bVar 4) (bNil))) (bCons (bDctM [(.inr "own", bCon (.int 0)), (.inr "house", bCon (.int 0)), (.inr "laid", bCon (.int 0)), (.inr "years", bCon (.int 0))]) (bNil)))) (tgTup [tgName 14, tgName 15])
def st9 : Cs := cFor (bRng1 (bCons (bCallM hRoll (bCons (bVar 1) (bCons (bCon (.int 16)) (bNil)))) (bNil))) (tgName 7) (cSeq (cAsg (bTup (bCons (bCallM hRoll (bCons (bVar 1) (bCons (bCon (.int 10)) (bNil)))) (bCons (bCallM hRoll (bCons (bVar 1) (bCons (bCon (.int 2000)) (bNil)))) (bCons (bCallM hRoll (bCons (bVar 1) (bCons (bCon (.int 400)) (bNil)))) (bCons (bBin dSub (bCallM hRoll (bCons (bVar 1) (bCons (bCon (.int 2000)) (bNil)))) (bCon (.int 700))) (bCons (bCallM hRoll (bCons (bVar 1) (bCons (bCon (.int 300)) (bNil)))) (bNil))))))) (tgTup [tgName 24, tgName 11, tgName 12, tgName 18, tgName 25])) (cSeq (cIf (bTst (bBin dLt (bVar 24) (bCon (.int 4)))) (cSeq (cSet 26 (bFn dMax2 (bCons (bCon (.int 0)) (bCons (bFn dMin2 (bCons (bBin dDiv (bBin dMulA (bVar 11) (bFn dMin2 (bCons (bVar 12) (bCons (bVar 8) (bNil))))) (bCon (.int 1000))) (bCons (bBin dSub (bVar 9) (bBin dIxA (bVar 15) (bCon (.str "laid")))) (bNil)))) (bNil))))) (cSeq (cSet 27 (bCallP M__law_met (bCons (bVar 2) (bCons (bVar 11) (bCons (bVar 26) (bNil)))))) (cSeq (cExp (bUpd (bVar 15) (bDisp [(.inr "own", bBin dAdd (bBin dIxA (bVar 15) (bCon (.str "own"))) (bVar 26)), (.inr "laid", bBin dAdd (bBin dIxA (bVar 15) (bCon (.str "laid"))) (bVar 26)), (.inr "house", bBin dAdd (bBin dIxA (bVar 15) (bCon (.str "house"))) (bVar 27))]))) (cSet 28 (bBin dEqA (bMeth T_pay_in "pay_in" (bVar 14) (bCons (bVar 11) (bCons (bVar 12) (bNil)))) (bTup (bCons (bVar 26) (bCons (bVar 27) (bNil))))))))) (cIf (bTst (bBin dLt (bVar 24) (bCon (.int 6)))) (cSeq (cPar2 23 29 (bCons (bBin dDiv (bBin dMulA (bBin dIxA (bVar 15) (bCon (.str "own"))) (bVar 18)) (bCon (.int 10000))) (bCons (bBin dDiv (bBin dMulA (bBin dIxA (bVar 15) (bCon (.str "house"))) (bVar 18)) (bCon (.int 10000))) (bNil)))) (cSeq (cExp (bUpd (bVar 15) (bDisp [(.inr "own", bBin dAdd (bBin dIxA (bVar 15) (bCon (.str "own"))) (bVar 23)), (.inr "house", bBin dAdd (bBin dIxA (bVar 15) (bCon (.str "house"))) (bVar 29))]))) (cSet 28 (bBin dEqA (bMeth T_grow_by "grow_by" (bVar 14) (bCons (bVar 18) (bNil))) (bBin dAdd (bVar 23) (bVar 29)))))) (cIf (bTst (bBin dEqA (bVar 24) (bCon (.int 6)))) (cSeq (cExp (bUpd (bVar 15) (bDisp [(.inr "laid", bCon (.int 0)), (.inr "years", bBin dAdd (bBin dIxA (bVar 15) (bCon (.str "years"))) (bCon (.int 1)))]))) (cSet 28 (bBin dIsN (bMeth T_begin_year "begin_year" (bVar 14) bNil) (bCon .non)))) (cIf (bTst (bBin dLt (bVar 24) (bCon (.int 9)))) (cSeq (cSet 30 (bChain dLt dLe (bCon (.int 0)) (bVar 25) (bBin dIxA (bVar 15) (bCon (.str "own"))))) (cSeq (cExp (bUpd (bVar 15) (bIf (bTru (bVar 30)) (bDisp [(.inr "own", bBin dSub (bBin dIxA (bVar 15) (bCon (.str "own"))) (bVar 25))]) (bDct0)))) (cSet 28 (bBin dEqA (bBin dIsN (bTold told_ret told_en (bMeth T_take_out "take_out" (bVar 14) (bCons (bVar 25) (bNil)))) (bCon .non)) (bVar 30))))) (cSeq (cSet 31 (bBin dAdd (bBin dIxA (bVar 15) (bCon (.str "own"))) (bBin dDiv (bBin dMulA (bBin dIxA (bVar 15) (bCon (.str "house"))) (bBin dIxA (bComp [21, 23] (bItemsA (bVar 10)) (tgTup [tgName 21, tgName 23]) (bTst (bBin dLe (bVar 21) (bBin dIxA (bVar 15) (bCon (.str "years"))))) (bVar 23)) (bNeg (bCon (.int 1))))) (bCon (.int 1000))))) (cSeq (cSet 28 (bAnd (bBin dEqA (bMeth T_owned_now "owned_now" (bVar 14) bNil) (bVar 31)) (bBin dEqA (bMeth T_leave_now "leave_now" (bVar 14) bNil) (bTup (bCons (bVar 31) (bCons (bBin dSub (bBin dAdd (bBin dIxA (bVar 15) (bCon (.str "own"))) (bBin dIxA (bVar 15) (bCon (.str "house")))) (bVar 31)) (bNil))))))) (cExp (bUpd (bVar 15) (bDisp [(.inr "own", bCon (.int 0)), (.inr "house", bCon (.int 0))]))))))))) (cSeq (cIf (bNotT (bTru (bVar 28))) (cRet (bCon (.bl false))) (cNop)) (cIf (bTst (bBin dNeA (bTup (bCons (bFld C_own "own" (bVar 14)) (bCons (bFld C_house "house" (bVar 14)) (bCons (bFld C_laid "laid" (bVar 14)) (bCons (bFld C_years "years" (bVar 14)) (bNil)))))) (bTup (bCons (bBin dIxA (bVar 15) (bCon (.str "own"))) (bCons (bBin dIxA (bVar 15) (bCon (.str "house"))) (bCons (bBin dIxA (bVar 15) (bCon (.str "laid"))) (bCons (bBin dIxA (bVar 15) (bCon (.str "years"))) (bNil)))))))) (cRet (bCon (.bl false))) (cNop)))))
def st10 : Cs := cAsg (bTup (bCons (bCallM hRoll (bCons (bVar 1) (bCons (bCon (.int 500)) (bNil)))) (bCons (bCallM hRoll (bCons (bVar 1) (bCons (bCon (.int 90)) (bNil)))) (bCons (bCallM hRoll (bCons (bVar 1) (bCons (bCon (.int 900)) (bNil)))) (bCons (bBin dAdd (bCon (.int 1)) (bCallM hRoll (bCons (bVar 1) (bCons (bCon (.int 12)) (bNil))))) (bCons (bCallM hRoll (bCons (bVar 1) (bCons (bCon (.int 3000)) (bNil)))) (bNil))))))) (tgTup [tgName 16, tgName 17, tgName 18, tgName 19, tgName 20])
def st11 : Cs := cPar2 21 22 (bCons (bCallP M_least_each (bCons (bVar 16) (bCons (bVar 18) (bCons (bVar 19) (bCons (bVar 20) (bNil)))))) (bCons (bCallP M_paid_for_years (bCons (bVar 20) (bCons (bVar 18) (bCons (bVar 19) (bNil))))) (bNil)))
def st12 : Cs := cIf (bOrT (bTst (bBin dNeA (bCallP M_grown_money (bCons (bVar 16) (bCons (bVar 17) (bCons (bVar 18) (bCons (bVar 19) (bNil)))))) (bCallP M__law_grown (bCons (bVar 16) (bCons (bVar 17) (bCons (bVar 18) (bCons (bVar 19) (bNil)))))))) (bOrT (bTst (bBin dLt (bCallP M__law_grown (bCons (bVar 16) (bCons (bVar 21) (bCons (bVar 18) (bCons (bVar 19) (bNil)))))) (bVar 20))) (bAndT (bTst (bBin dGt (bVar 21) (bCon (.int 0)))) (bTst (bBin dGe (bCallP M__law_grown (bCons (bVar 16) (bCons (bBin dSub (bVar 21) (bCon (.int 1))) (bCons (bVar 18) (bCons (bVar 19) (bNil)))))) (bVar 20)))))) (cRet (bCon (.bl false))) (cNop)
def st13 : Cs := cIf (bOrT (bTst (bBin dLt (bCallP M__law_left (bCons (bVar 20) (bCons (bVar 22) (bCons (bVar 18) (bCons (bVar 19) (bNil)))))) (bVar 19))) (bOrT (bTst (bBin dGe (bCallP M__law_left (bCons (bVar 20) (bCons (bBin dAdd (bVar 22) (bCon (.int 1))) (bCons (bVar 18) (bCons (bVar 19) (bNil)))))) (bVar 19))) (bOrT (bTst (bBin dNeA (bCallP M_years_it_lasts (bCons (bVar 20) (bCons (bBin dAdd (bCon (.int 1)) (bVar 17)) (bCons (bVar 18) (bNil))))) (bCallP M__law_left (bCons (bVar 20) (bCons (bBin dAdd (bCon (.int 1)) (bVar 17)) (bCons (bVar 18) (bCons (bCon (.int 80)) (bNil)))))))) (bTst (bBin dNeA (bCallP M_does_last (bCons (bVar 20) (bCons (bVar 17) (bCons (bVar 18) (bCons (bVar 19) (bNil)))))) (bBin dGe (bCallP M__law_left (bCons (bVar 20) (bCons (bVar 17) (bCons (bVar 18) (bCons (bVar 19) (bNil)))))) (bVar 19))))))) (cRet (bCon (.bl false))) (cNop)
def bodyC : Cs := cSeq st0 (cSeq st1 (cSeq st2 (cSeq st3 (cSeq st4 (cSeq st5 (cSeq st6 (cSeq st7 (cSeq st8 (cSeq st9 (cSeq st10 (cSeq st11 (cSeq st12 st13))))))))))))
theorem B_law_eq : B_law = cSeq (cFor (bItemsA (bCallM hRounds (bCons (bVar 0) (bCons (bCon (.int 1)) (bNil))))) (tgName 1) bodyC) (cRet (bCall0 M__law_plain)) := rfl
theorem cl_ex {t : Tg} {fe : Cb D} {ρ : En} (Pr : D → Prop) : ∀ (ds acc : List D) (μ : Sto), DiceAt μ → (∀ d ∈ ds, ∀ μ, DiceAt μ → ∃ ρ1 e μ1, t d ρ μ = some (ρ1, μ) ∧ fe ρ1 μ = some (.ok e μ1) ∧ Go μ μ1 ∧ Pr e) → acc.length + ds.length ≤ 16777216 →
    ∃ es μ', cl t bYes fe ds acc ρ μ = some (.ok (acc ++ es) μ') ∧ es.length = ds.length ∧ (∀ e ∈ es, Pr e) ∧ Go μ μ'
  | [], acc, μ, _, _, _ => ⟨[], μ, by simp [cl], rfl, by simp, .refl _⟩
  | d :: ds, acc, μ, hd, h, hz => by
    rw [List.length_cons] at hz
    obtain ⟨ρ1, e, μ1, h1, h2, g, hp⟩ := h d List.mem_cons_self μ hd
    obtain ⟨es, μ2, e2, hl, hb, g2⟩ := cl_ex Pr ds (acc ++ [e]) μ1 (g.1 hd) (fun d hd => h d (List.mem_cons_of_mem _ hd)) (by simp; omega)
    refine ⟨e :: es, μ2, ?_, by simp [hl], fun x hx => ?_, g.trans g2⟩
    · unfold cl
      rw [h1]
      simp only [bYes_s, h2]
      rw [if_pos (by omega), e2]
      simp
    · rcases List.mem_cons.mp hx with e1 | e1
      · rw [e1]; exact hp
      · exact hb x e1
theorem rows_of {Q : Int → Int → Prop} : ∀ (es : List D), (∀ e ∈ es, ∃ a b, e = D.tup [.int a, .int b] ∧ Q a b) → ∃ ms : Rows, es = rwD ms ∧ ∀ p ∈ ms, Q p.1 p.2
  | [], _ => ⟨[], rfl, by simp⟩
  | e :: es, h => by
    obtain ⟨a, b, h1, h2⟩ := h e List.mem_cons_self
    obtain ⟨ms, h3, h4⟩ := rows_of es fun e he => h e (List.mem_cons_of_mem _ he)
    refine ⟨(a, b) :: ms, by rw [h1, h3]; rfl, fun p hp => ?_⟩
    rcases List.mem_cons.mp hp with e1 | e1
    · rw [e1]; exact h2
    · exact h4 p e1
theorem rwD_app (a b : Rows) : rwD (a ++ b) = rwD a ++ rwD b := by unfold rwD; simp
theorem incN_app : ∀ {os : Rows} {p q : Int × Int}, os.getLast? = some p → incN os → p.1 < q.1 → p.2 ≤ q.2 → incN (os ++ [q])
  | [], p, q, h, _, _, _ => by simp at h
  | [a], p, q, h, _, h1, h2 => by
    have : a = p := by simpa using h
    subst this
    exact ⟨⟨h1, h2⟩, trivial⟩
  | a :: b :: r, p, q, h, hi, h1, h2 => ⟨hi.1, incN_app (os := b :: r) (by simpa using h) hi.2 h1 h2⟩
/-- the rows of what is owned, as they are made -/
structure OsK (os : Rows) (k : Nat) : Prop where
  first : ∃ r rest, os = (0, r) :: rest
  inc : incN os
  rate : ∀ p ∈ os, 0 ≤ p.2 ∧ p.2 ≤ 1000
  len : os.length = k + 1
  small : ∀ p ∈ os, 0 ≤ p.1 ∧ p.1 ≤ 2 * k
theorem OsK.app {os : Rows} {k : Nat} (h : OsK os k) {p q : Int × Int} (hl : os.getLast? = some p) (h1 : p.1 < q.1 ∧ q.1 ≤ p.1 + 2) (h2 : p.2 ≤ q.2 ∧ q.2 ≤ 1000) : OsK (os ++ [q]) (k + 1) := by
  obtain ⟨r, rest, e⟩ := h.first
  have hm := List.mem_of_getLast? hl
  have hp := h.small p hm
  have hp2 := h.rate p hm
  refine ⟨⟨r, rest ++ [q], by rw [e]; rfl⟩, incN_app hl h.inc h1.1 h2.1, fun x hx => ?_, by rw [List.length_append, h.len]; rfl, fun x hx => ?_⟩
  · rcases List.mem_append.mp hx with z | z
    · exact h.rate x z
    · rw [List.mem_singleton.mp z]; omega
  · rcases List.mem_append.mp hx with z | z
    · have := h.small x z; omega
    · rw [List.mem_singleton.mp z]; omega
/-- what the law's loop holds on to -/
structure Lv (part most : Int) (ms os : Rows) (np : Nat) (ρ : En) (μ : Sto) : Prop where
  len : ρ.length = 32
  dice : ρ[1]? = some (some (.ref 0))
  mat : ρ[2]? = some (some (.lst (rwD ms)))
  plan : ρ[4]? = some (some (.ref np))
  prt : ρ[8]? = some (some (.int part))
  mst : ρ[9]? = some (some (.int most))
  own : ρ[10]? = some (some (.lst (rwD os)))
  m0 : DiceAt μ
  mp : μ[np]? = some (insP part ms os most)
  nz : np ≠ 0
section
variable {part most : Int} {ms os : Rows} {np : Nat} {ρ : En} {μ μ' : Sto}
theorem Lv.set (h : Lv part most ms os np ρ μ) (i : Nat) (v : Option D) (hi : i ∉ [1, 2, 4, 8, 9, 10]) : Lv part most ms os np (ρ.set i v) μ := by
  simp only [List.mem_cons, List.not_mem_nil, or_false, not_or] at hi
  obtain ⟨h1, h2, h3, h4, h5, h6⟩ := hi
  exact ⟨by simp [h.len], by rw [List.getElem?_set_ne h1]; exact h.dice, by rw [List.getElem?_set_ne h2]; exact h.mat, by rw [List.getElem?_set_ne h3]; exact h.plan, by rw [List.getElem?_set_ne h4]; exact h.prt, by rw [List.getElem?_set_ne h5]; exact h.mst, by rw [List.getElem?_set_ne h6]; exact h.own, h.m0, h.mp, h.nz⟩
theorem Lv.go (h : Lv part most ms os np ρ μ) (g : Go μ μ') : Lv part most ms os np ρ μ' := ⟨h.len, h.dice, h.mat, h.plan, h.prt, h.mst, h.own, g.1 h.m0, g.2 np _ h.nz h.mp, h.nz⟩
end
structure Fa (part most : Int) (ms os : Rows) : Prop where
  po : Po part ms os most
  hpart : 0 ≤ part ∧ part < 300
  hmost : 0 ≤ most ∧ most < 900
theorem init_law {ns : List Int} {a b c : Int} : ∃ part most ms os np ρ μ, Fa part most ms os ∧ Lv part most ms os np ρ μ ∧ ∀ k : Cs, cSeq st0 (cSeq st1 (cSeq st2 (cSeq st3 k))) (some (.scr ns) :: some (.ref 0) :: List.replicate 30 none) [.lst [.int a, .int b, .int c]] = k ρ μ := by
  have D0 : DiceAt [.lst [.int a, .int b, .int c]] := ⟨a, b, c, rfl⟩
  generalize hμ0 : ([.lst [.int a, .int b, .int c]] : Sto) = μ0 at D0
  generalize hρ0 : (some (D.scr ns) :: some (D.ref 0) :: List.replicate 30 none : En) = ρ0
  have l0 : ρ0.length = 32 := by rw [← hρ0]; simp
  have d0 : ρ0[1]? = some (some (.ref 0)) := by rw [← hρ0]; rfl
  obtain ⟨part, μ1, p0, p1, e1, g1, _⟩ := rollG D0 (many := 300) (by omega) (by omega)
  have D1 := g1.1 D0
  obtain ⟨most, μ2, m0, m1, e2, g2, _⟩ := rollG D1 (many := 900) (by omega) (by omega)
  have D2 := g2.1 D1
  obtain ⟨r0, μ3, r1, r2, e3, g3, _⟩ := rollG D2 (many := 400) (by omega) (by omega)
  have D3 := g3.1 D2
  have c1 := callR d0 e1
  have c2 := callR d0 e2
  have c3 := callR d0 e3
  have s0 : st0 ρ0 μ0 = some (.nx (((ρ0.set 8 (some (.int part))).set 9 (some (.int most))).set 10 (some (.lst (rwD [(0, r0)])))) μ3) := by
    unfold st0
    simp [-bCallM_s, c1, c2, c3, rwD]
  generalize hρ1 : (((ρ0.set 8 (some (.int part))).set 9 (some (.int most))).set 10 (some (.lst (rwD [(0, r0)]))) : En) = ρ1 at s0
  have l1 : ρ1.length = 32 := by rw [← hρ1]; simp [l0]
  have d1 : ρ1[1]? = some (some (.ref 0)) := by rw [← hρ1]; simp [List.getElem?_set, d0]
  have a8 : ρ1[8]? = some (some (.int part)) := by rw [← hρ1]; simp [List.getElem?_set, l0]
  have a9 : ρ1[9]? = some (some (.int most)) := by rw [← hρ1]; simp [List.getElem?_set, l0]
  have a10 : ρ1[10]? = some (some (.lst (rwD [(0, r0)]))) := by rw [← hρ1]; simp [List.getElem?_set, l0]
  -- 1
  obtain ⟨n1, μ4, n1a, n1b, e4, g4, _⟩ := rollG D3 (many := 3) (by omega) (by omega)
  have D4 := g4.1 D3
  have c4 := callR d1 e4
  have hr1 : bRng1 (bCons (bCallM hRoll (bCons (bVar 1) (bCons (bCon (.int 3)) (bNil)))) (bNil)) ρ1 μ3 = some (.ok (rngD 0 n1.toNat) μ4) := rng1_z (μ := μ4) (z := n1) (by omega) (by rw [bCons_s, c4]; simp)
  obtain ⟨es, μ5, e5, hl5, hP5, g5⟩ := cl_ex (t := tgName 3) (fe := bTup (bCons (bCallM hRoll (bCons (bVar 1) (bCons (bCon (.int 80)) (bNil)))) (bCons (bCallM hRoll (bCons (bVar 1) (bCons (bCon (.int 2001)) (bNil)))) (bNil)))) (ρ := wipeD ρ1 [3]) (fun e => ∃ a b, e = D.tup [.int a, .int b] ∧ ((0 ≤ a ∧ a < 80) ∧ 0 ≤ b ∧ b < 2001)) (rngD 0 n1.toNat) [] μ4 D4 (fun d hd μ hD => by
    obtain ⟨x, μx, x0, x1, ex, gx, _⟩ := rollG hD (many := 80) (by omega) (by omega)
    obtain ⟨y, μy, y0, y1, ey, gy, _⟩ := rollG (gx.1 hD) (many := 2001) (by omega) (by omega)
    have dd : ((wipeD ρ1 [3]).set 3 (some d))[1]? = some (some (.ref 0)) := by
      show ((ρ1.set 3 none).set 3 (some d))[1]? = _
      rw [List.getElem?_set_ne (by decide), List.getElem?_set_ne (by decide)]; exact d1
    have cx := callR dd ex
    have cy := callR dd ey
    exact ⟨_, .tup [.int x, .int y], μy, rfl, by simp [-bCallM_s, cx, cy], gx.trans gy, x, y, rfl, ⟨x0, x1⟩, y0, y1⟩) (by rw [rngD_len]; simp; omega)
  obtain ⟨ms, em, hms⟩ := rows_of (Q := fun a b => (0 ≤ a ∧ a < 80) ∧ 0 ≤ b ∧ b < 2001) es hP5
  have hml : ms.length ≤ 2 := by
    have : es.length = ms.length := by rw [em, rwD_len]
    rw [rngD_len] at hl5
    omega
  rw [List.nil_append, em] at e5
  have s1 : st1 ρ1 μ3 = some (.nx (ρ1.set 2 (some (.lst (rwD ms)))) μ5) := by
    unfold st1
    rw [cSet_s, bComp_s, hr1]
    simp only [ob]
    rw [e5]
    rfl
  have D5 := g5.1 D4
  generalize hρ2 : (ρ1.set 2 (some (.lst (rwD ms))) : En) = ρ2 at s1
  have l2 : ρ2.length = 32 := by rw [← hρ2]; simp [l1]
  have d2 : ρ2[1]? = some (some (.ref 0)) := by rw [← hρ2, List.getElem?_set_ne (by decide)]; exact d1
  have b2 : ρ2[2]? = some (some (.lst (rwD ms))) := by rw [← hρ2, List.getElem?_set_self (by rw [l1]; omega)]
  have b8 : ρ2[8]? = some (some (.int part)) := by rw [← hρ2, List.getElem?_set_ne (by decide)]; exact a8
  have b9 : ρ2[9]? = some (some (.int most)) := by rw [← hρ2, List.getElem?_set_ne (by decide)]; exact a9
  have b10 : ρ2[10]? = some (some (.lst (rwD [(0, r0)]))) := by rw [← hρ2, List.getElem?_set_ne (by decide)]; exact a10
  -- 2
  obtain ⟨n2, μ6, n2a, n2b, e6, g6, _⟩ := rollG D5 (many := 3) (by omega) (by omega)
  have D6 := g6.1 D5
  have c6 := callR d2 e6
  have hr2 : bRng1 (bCons (bCallM hRoll (bCons (bVar 1) (bCons (bCon (.int 3)) (bNil)))) (bNil)) ρ2 μ5 = some (.ok (rngD 0 n2.toNat) μ6) := rng1_z (μ := μ6) (z := n2) (by omega) (by rw [bCons_s, c6]; simp)
  obtain ⟨ρ3, μ7, e7, ⟨os, hO, l3, d3, k2, k8, k9, k10, D7⟩⟩ := rng_run (t := tgName 3) (b := cSet 10 (bBin dAdd (bVar 10) (bLst (bCons (bTup (bCons (bBin dAdd (bBin dAdd (bBin dIxA (bBin dIxA (bVar 10) (bNeg (bCon (.int 1)))) (bCon (.int 0))) (bCon (.int 1))) (bCallM hRoll (bCons (bVar 1) (bCons (bCon (.int 2)) (bNil))))) (bCons (bFn dMin2 (bCons (bCon (.int 1000)) (bCons (bBin dAdd (bBin dIxA (bBin dIxA (bVar 10) (bNeg (bCon (.int 1)))) (bCon (.int 1))) (bCallM hRoll (bCons (bVar 1) (bCons (bCon (.int 400)) (bNil))))) (bNil)))) (bNil)))) (bNil)))))
    (I := fun i ρ μ => ∃ os : Rows, OsK os i ∧ ρ.length = 32 ∧ ρ[1]? = some (some (.ref 0)) ∧ ρ[2]? = some (some (.lst (rwD ms))) ∧ ρ[8]? = some (some (.int part)) ∧ ρ[9]? = some (some (.int most)) ∧ ρ[10]? = some (some (.lst (rwD os))) ∧ DiceAt μ) 0 n2.toNat (fun i ρ μ hi ⟨os, hO, q0, q1, q2, q8, q9, q10, hD⟩ => by
      generalize (0 + (i : Int)) = kk
      obtain ⟨x, μx, x0, x1, ex, gx, _⟩ := rollG hD (many := 2) (by omega) (by omega)
      obtain ⟨y, μy, y0, y1, ey, gy, _⟩ := rollG (gx.1 hD) (many := 400) (by omega) (by omega)
      have dd : (ρ.set 3 (some (.int kk)))[1]? = some (some (.ref 0)) := by rw [List.getElem?_set_ne (by decide)]; exact q1
      have t10 : (ρ.set 3 (some (.int kk)))[10]? = some (some (.lst (rwD os))) := by rw [List.getElem?_set_ne (by decide)]; exact q10
      have cx := callR dd ex
      have cy := callR dd ey
      obtain ⟨r, rest, er⟩ := hO.first
      have hne : os ≠ [] := by rw [er]; simp
      obtain ⟨p, hp⟩ : ∃ p, os.getLast? = some p := ⟨_, List.getLast?_eq_getLast hne⟩
      have hp2 := hO.rate p (List.mem_of_getLast? hp)
      have hat : atI (rwD os) (-1) = some (.tup [.int p.1, .int p.2]) := by
        rw [Mw.atI_last]
        unfold rwD
        rw [List.getLast?_map, hp]
        rfl
      have hlen := hO.len
      have hsz : (rwD os).length + 1 ≤ 16777216 := by rw [rwD_len]; omega
      refine ⟨_, _, (ρ.set 3 (some (.int kk))).set 10 (some (.lst (rwD (os ++ [(p.1 + 1 + x, mn 1000 (p.2 + y))])))), μy, rfl, ?_, os ++ [(p.1 + 1 + x, mn 1000 (p.2 + y))], hO.app hp ⟨by show p.1 < p.1 + 1 + x; omega, by show p.1 + 1 + x ≤ p.1 + 2; omega⟩ ⟨by show p.2 ≤ mn 1000 (p.2 + y); rw [mn_e]; omega, by show mn 1000 (p.2 + y) ≤ 1000; rw [mn_e]; omega⟩, by simp [q0], ?_, ?_, ?_, ?_, ?_, gy.1 (gx.1 hD)⟩
      · rw [rwD_app]
        simp [-bCallM_s, -dMin2_i, dMin2_m, cx, cy, t10, hat, hsz]
        rfl
      · rw [List.getElem?_set_ne (by decide)]; exact dd
      · rw [List.getElem?_set_ne (by decide), List.getElem?_set_ne (by decide)]; exact q2
      · rw [List.getElem?_set_ne (by decide), List.getElem?_set_ne (by decide)]; exact q8
      · rw [List.getElem?_set_ne (by decide), List.getElem?_set_ne (by decide)]; exact q9
      · rw [List.getElem?_set_self (by rw [List.length_set, q0]; omega)]) (ρ := ρ2) (μ := μ6) ⟨[(0, r0)], ⟨⟨r0, [], rfl⟩, trivial, fun p hp => by rw [List.mem_singleton.mp hp]; exact ⟨r1, by show r0 ≤ 1000; omega⟩, rfl, fun p hp => by rw [List.mem_singleton.mp hp]; exact ⟨Int.le_refl 0, by show (0 : Int) ≤ 2 * ((0 : Nat) : Int); omega⟩⟩, l2, d2, b2, b8, b9, b10, D6⟩
  have s2 : st2 ρ2 μ5 = some (.nx ρ3 μ7) := by
    unfold st2
    rw [cFor_s, hr2]
    exact e7
  have P : Po part ms os most := ⟨⟨hO.first, incN_inc hO.inc, hO.rate, by rw [hO.len]; omega, fun p hp => by have := hO.small p hp; omega⟩, hO.inc, fun p hp => by have := hms p hp; omega, by omega, by omega, by omega⟩
  -- 3
  have hmk := pmake_s (μ := μ7) (μ0 := μ7) (ρ := ρ3) (fs := bCons (bVar 8) (bCons (bVar 2) (bCons (bVar 10) (bCons (bVar 9) (bNil))))) P (by simp [k8, k2, k10, k9])
  have s3 : st3 ρ3 μ7 = some (.nx (ρ3.set 4 (some (.ref μ7.length))) (μ7 ++ [insP part ms os most])) := by
    unfold st3
    rw [cSet_s, hmk]
    rfl
  have hnz : μ7.length ≠ 0 := by
    obtain ⟨a, b, c, e⟩ := D7
    have := (List.getElem?_eq_some_iff.mp e).1
    omega
  have gp := pre_go (pre_app μ7 [insP part ms os most])
  refine ⟨part, most, ms, os, μ7.length, ρ3.set 4 (some (.ref μ7.length)), μ7 ++ [insP part ms os most], ⟨P, ⟨p0, p1⟩, m0, m1⟩, ⟨by simp [l3], by rw [List.getElem?_set_ne (by decide)]; exact d3, by rw [List.getElem?_set_ne (by decide)]; exact k2, by rw [List.getElem?_set_self (by rw [l3]; omega)], by rw [List.getElem?_set_ne (by decide)]; exact k8, by rw [List.getElem?_set_ne (by decide)]; exact k9, by rw [List.getElem?_set_ne (by decide)]; exact k10, gp.1 D7, get_last, hnz⟩, fun k => ?_⟩
  rw [seq_nx s0 rfl, seq_nx s1 rfl, seq_nx s2 rfl, seq_nx s3 rfl]
end K10

set_option linter.all false
set_option maxRecDepth 100000
set_option maxHeartbeats 4000000
namespace K10
open PySem Mi L2 Mw
theorem pick_map (g : Int → Int) (M : Nat) : ∀ ix : List Nat, (∀ i ∈ ix, i < M) → pickL (((rngI 0 M).map g).map D.int) ix = (ix.map fun i : Nat => g i).map .int
  | [], _ => rfl
  | i :: ix, h => by
    have hi := h i List.mem_cons_self
    have ih := pick_map g M ix fun j hj => h j (List.mem_cons_of_mem _ hj)
    have e : (((rngI 0 M).map g).map D.int)[i]? = some (.int (g i)) := by
      unfold rngI
      rw [List.getElem?_map, List.getElem?_map, List.getElem?_map, List.getElem?_range hi]
      simp
    unfold pickL at ih ⊢
    rw [List.filterMap_cons, e, List.map_cons, List.map_cons, ← ih]
theorem step7 (N : Nat) : stepIx none none 7 (N + 1) = (List.range (N / 7 + 1)).map fun k => 7 * k := by
  unfold stepIx
  have e : sliceBounds none none (some 7) (N + 1) = (0, ((N + 1 : Nat) : Int), 7) := by
    first
      | rfl
      | simp [sliceBounds]
  rw [e]
  unfold sliceRange
  dsimp only
  rw [if_pos (by decide), if_pos (by omega)]
  have e2 : ((((N + 1 : Nat) : Int) - 0 + 7 - 1) / 7).toNat = N / 7 + 1 := by omega
  rw [e2]
  apply List.map_congr_left
  intro k _
  omega
theorem rg7 (N : Nat) : Builtin.Range.rangeSize 0 ((N + 1 : Nat) : Int) 7 = ((N / 7 + 1 : Nat) : Int) := by
  unfold Builtin.Range.rangeSize
  rw [if_pos (by decide), if_pos (by omega)]
  omega
theorem rg7z {z : Int} (h : 1 ≤ z) : Builtin.Range.rangeSize 0 z 7 = (z - 1) / 7 + 1 := by
  unfold Builtin.Range.rangeSize
  rw [if_pos (by decide), if_pos (by omega)]
  omega
theorem small7z {z : Int} (h : 1 ≤ z ∧ z ≤ 100001) : Builtin.Range.small 0 z 7 = true := by
  unfold Builtin.Range.small
  rw [rg7z h.1]
  simp only [Builtin.Range.rangeFitsLong, Bool.and_eq_true, Bool.or_eq_true, decide_eq_true_eq, beq_iff_eq, show (7 : Int) > 0 by decide, if_true]
  omega
theorem small7 (N : Nat) (h : N ≤ 100000) : Builtin.Range.small 0 ((N + 1 : Nat) : Int) 7 = true := small7z ⟨by omega, by omega⟩
theorem c7 : (7 : Int).natAbs < 1073741824 := by decide
theorem bRng3_s {ρ : En} {μ : Sto} {f : Cb (List D)} {i j c n : Int} {μ0 : Sto} (hf : f ρ μ0 = some (.ok [.int i, .int j, .int c] μ)) (h0 : c ≠ 0) (h1 : c.natAbs < 1073741824) (h2 : Builtin.Range.small i j c = true) (h3 : Builtin.Range.rangeSize i j c = n) (h4 : 0 ≤ n) : bRng3 f ρ μ0 = some (.ok (upD i c n.toNat) μ) := by
  unfold bRng3
  rw [hf]
  simp only [ob]
  rw [h3, if_pos ⟨h0, h1, h2, h4⟩]
theorem first_at (g : Int → Int) {M w : Nat} (hw : w < M) {G : Int} (h1 : g w = G) (h2 : ∀ j : Nat, j < w → g j ≠ G) : ((rngI 0 M).map g).findIdx? (fun n => decide (n = G)) = some w := by
  rw [List.findIdx?_eq_some_iff_getElem]
  have hl : w < ((rngI 0 M).map g).length := by rw [List.length_map, rngI_len]; exact hw
  have hg : ∀ (j : Nat) (hj : j < ((rngI 0 M).map g).length), ((rngI 0 M).map g)[j] = g j := fun j hj => by
    unfold rngI
    simp
  exact ⟨hl, by rw [hg]; simpa using h1, fun j hj => by rw [hg]; simpa using h2 j hj⟩
theorem max_at (g : Int → Int) {M : Nat} (hm : ∀ j : Nat, j ≤ M → g j ≤ g M) : maxI ((rngI 0 (M + 1)).map g) = some (g M) := by
  have hg : ∀ y ∈ (rngI 0 (M + 1)).map g, ∃ j : Nat, j ≤ M ∧ y = g j := fun y hy => by
    obtain ⟨x, hx, rfl⟩ := List.mem_map.mp hy
    have := rngI_mem hx
    exact ⟨x.toNat, by omega, by congr 1; omega⟩
  have hM : g M ∈ (rngI 0 (M + 1)).map g := by
    refine List.mem_map.mpr ⟨(M : Int), ?_, rfl⟩
    unfold rngI
    exact List.mem_map.mpr ⟨M, by rw [List.mem_range]; omega, by omega⟩
  cases hq : maxI ((rngI 0 (M + 1)).map g) with
  | none =>
    cases hx : (rngI 0 (M + 1)).map g with
    | nil => rw [hx] at hM; cases hM
    | cons a r => rw [hx] at hq; cases hq
  | some m =>
    obtain ⟨m1, m2⟩ := maxI_of hq
    obtain ⟨j, hj, rfl⟩ := hg m m1
    have h1 := hm j hj
    have h2 := m2 _ hM
    congr 1
    omega
section
variable {part most : Int} {ms os : Rows} {np : Nat} {ρ : En} {μ : Sto}
theorem grp4 (F : Fa part most ms os) (h : Lv part most ms os np ρ μ) : ∃ ρ' μ', Lv part most ms os np ρ' μ' ∧ ∀ k : Cs, cSeq st4 (cSeq st5 (cSeq st6 (cSeq st7 k))) ρ μ = k ρ' μ' := by
  have P := F.po
  have hpt := F.hpart
  have hmo := F.hmost
  obtain ⟨pay, μ1, p0, p1, e1, g1, _⟩ := rollG h.m0 (many := 2000) (by omega) (by omega)
  obtain ⟨mine, μ2, m0, m1, e2, g2, _⟩ := rollG (g1.1 h.m0) (many := 400) (by omega) (by omega)
  obtain ⟨laid, μ3, l0, l1, e3, g3, _⟩ := rollG (g2.1 (g1.1 h.m0)) (many := 900) (by omega) (by omega)
  have c1 := callR h.dice e1
  have c2 := callR h.dice e2
  have c3 := callR h.dice e3
  have s4 : st4 ρ μ = some (.nx (((ρ.set 11 (some (.int pay))).set 12 (some (.int mine))).set 13 (some (.int laid))) μ3) := by
    unfold st4
    simp [-bCallM_s, c1, c2, c3]
  have L1 := (((h.go ((g1.trans g2).trans g3)).set 11 (some (.int pay)) (by decide)).set 12 (some (.int mine)) (by decide)).set 13 (some (.int laid)) (by decide)
  generalize hρ1 : (((ρ.set 11 (some (.int pay))).set 12 (some (.int mine))).set 13 (some (.int laid)) : En) = ρ1 at s4 L1
  have a11 : ρ1[11]? = some (some (.int pay)) := by rw [← hρ1]; simp [List.getElem?_set, h.len]
  have a12 : ρ1[12]? = some (some (.int mine)) := by rw [← hρ1]; simp [List.getElem?_set, h.len]
  have a13 : ρ1[13]? = some (some (.int laid)) := by rw [← hρ1]; simp [List.getElem?_set, h.len]
  -- 5
  have hmu : mulOk pay (mn mine part) = true := mul_small (by rw [mn_e]; omega)
  have s5 : st5 ρ1 μ3 = some (.nx (ρ1.set 5 (some (.int (ownV part most pay mine laid)))) μ3) := by
    unfold st5
    simp [-dMin2_i, dMin2_m, -dMax2_i, dMax2_m, a11, a12, a13, L1.prt, L1.mst, hmu, div_k1, ownV]
  have L2' := L1.set 5 (some (.int (ownV part most pay mine laid))) (by decide)
  generalize hρ2 : (ρ1.set 5 (some (.int (ownV part most pay mine laid))) : En) = ρ2 at s5 L2'
  have b11 : ρ2[11]? = some (some (.int pay)) := by rw [← hρ2, List.getElem?_set_ne (by decide)]; exact a11
  have b12 : ρ2[12]? = some (some (.int mine)) := by rw [← hρ2, List.getElem?_set_ne (by decide)]; exact a12
  have b13 : ρ2[13]? = some (some (.int laid)) := by rw [← hρ2, List.getElem?_set_ne (by decide)]; exact a13
  have b5 : ρ2[5]? = some (some (.int (ownV part most pay mine laid))) := by rw [← hρ2, List.getElem?_set_self (by rw [L1.len]; omega)]
  -- 6
  have hN0 : 0 ≤ pay * part / 1000 := Int.ediv_nonneg (mul_nn p0 hpt.1) (by omega)
  have hN1 : pay * part ≤ 2000 * 300 := Int.mul_le_mul (by omega) (by omega) hpt.1 (by omega)
  have hmu2 : mulOk pay part = true := mul_small (by omega)
  obtain ⟨N, hN⟩ : ∃ N : Nat, pay * part / 1000 = N := ⟨(pay * part / 1000).toNat, by omega⟩
  have hNb : N ≤ 600 := by omega
  have hNt : (pay * part / 1000 + 1).toNat = N + 1 := by omega
  have hN2 : pay * part / 1000 ≤ 600 := by omega
  have hNz : -4611686018427387904 ≤ pay * part / 1000 + 1 ∧ pay * part / 1000 + 1 < 4611686018427387904 := by
    clear hN hNt
    generalize pay * part / 1000 = q at hN0 hN2
    omega
  have M : Mt pay ms := ⟨⟨p0, by omega⟩, P.hms, P.hml⟩
  have e6 := comp_int (ρ := ρ2) (μ := μ3) (v := 23) (fit := bRng1 (bCons (bBin dAdd (bBin dDiv (bBin dMulA (bVar 11) (bVar 8)) (bCon (.int 1000))) (bCon (.int 1))) (bNil))) (fc := bYes) (fe := bCallP M__law_met (bCons (bVar 2) (bCons (bVar 11) (bCons (bVar 23) (bNil))))) (xs := rngI 0 (N + 1)) (fun _ => true) (fun x => metV pay x ms) (by
    rw [rng1_z (μ := μ3) (z := pay * part / 1000 + 1) hNz (by simp [b11, L2'.prt, hmu2, div_k1]), hNt, rngI_e]) (by rw [rngI_len]; omega) (fun x hx => by
    have hb := rngI_mem hx
    refine ⟨rfl, fun _ => ?_⟩
    have g23 : (ρ2.set 23 (some (.int x)))[23]? = some (some (.int x)) := List.getElem?_set_self (by rw [L2'.len]; omega)
    have g2 : (ρ2.set 23 (some (.int x)))[2]? = some (some (.lst (rwD ms))) := by rw [List.getElem?_set_ne (by decide)]; exact L2'.mat
    have g11 : (ρ2.set 23 (some (.int x)))[11]? = some (some (.int pay)) := by rw [List.getElem?_set_ne (by decide)]; exact b11
    have := lmet_s (own := x) M (by omega)
    simp [g23, g2, g11, purs, pur, purs_rw, this])
  rw [List.filter_eq_self.mpr (by simp)] at e6
  have s6 : st6 ρ2 μ3 = some (.nx (ρ2.set 6 (some (.lst (((rngI 0 (N + 1)).map fun x => metV pay x ms).map .int)))) μ3) := by
    unfold st6
    rw [cSet_s, e6]
    rfl
  have L3 := L2'.set 6 (some (.lst (((rngI 0 (N + 1)).map fun x => metV pay x ms).map .int))) (by decide)
  generalize hρ3 : (ρ2.set 6 (some (.lst (((rngI 0 (N + 1)).map fun x => metV pay x ms).map .int))) : En) = ρ3 at s6 L3
  have d11 : ρ3[11]? = some (some (.int pay)) := by rw [← hρ3, List.getElem?_set_ne (by decide)]; exact b11
  have d12 : ρ3[12]? = some (some (.int mine)) := by rw [← hρ3, List.getElem?_set_ne (by decide)]; exact b12
  have d13 : ρ3[13]? = some (some (.int laid)) := by rw [← hρ3, List.getElem?_set_ne (by decide)]; exact b13
  have d5 : ρ3[5]? = some (some (.int (ownV part most pay mine laid))) := by rw [← hρ3, List.getElem?_set_ne (by decide)]; exact b5
  have d6 : ρ3[6]? = some (some (.lst (((rngI 0 (N + 1)).map fun x => metV pay x ms).map .int))) := by rw [← hρ3, List.getElem?_set_self (by rw [L2'.len]; omega)]
  -- 7
  have t1 : bTst (bBin dNeA (bMeth T_own_part "own_part" (bVar 4) (bCons (bVar 11) (bCons (bVar 12) (bCons (bVar 13) (bNil))))) (bVar 5)) ρ3 μ3 = some (.ok false μ3) := by
    rw [bTst_s, bBin_s, methP (F := M_Plan_own_part) (ds := [.int pay, .int mine, .int laid]) rfl (by decide) (by simp [L3.plan]) L3.mp (by simp [d11, d12, d13]) rfl, own_s P L3.mp p0 m0 l0]
    simp [d5]
  have hln : (((rngI 0 (N + 1)).map fun x => metV pay x ms).map D.int).length = N + 1 := by simp [rngI_len]
  have MT : ∀ (ρ : En) (fs : Cb (List D)) (x : Int), ρ[4]? = some (some (.ref np)) → fs ρ μ3 = some (.ok [.int pay, .int x] μ3) → 0 ≤ x → bMeth T_met_part "met_part" (bVar 4) fs ρ μ3 = some (.ok (.int (metV pay x ms)) μ3) := fun ρ fs x g4 hfs hx => by
    rw [methP (n := np) (F := M_Plan_met_part) (ds := [.int pay, .int x]) rfl (by decide) (by simp [g4]) L3.mp hfs rfl]
    exact met_s P L3.mp p0 hx
  have e7 := comp_int (ρ := ρ3) (μ := μ3) (v := 23) (fit := bRng3 (bCons (bCon (.int 0)) (bCons (bFn dLenA (bCons (bVar 6) (bNil))) (bCons (bCon (.int 7)) (bNil))))) (fc := bYes) (fe := bMeth T_met_part "met_part" (bVar 4) (bCons (bVar 11) (bCons (bVar 23) (bNil)))) (xs := (List.range (N / 7 + 1)).map fun k : Nat => 7 * (k : Int)) (fun _ => true) (fun x => metV pay x ms) (by
    have ef : bCons (bCon (.int 0)) (bCons (bFn dLenA (bCons (bVar 6) (bNil))) (bCons (bCon (.int 7)) (bNil))) ρ3 μ3 = some (.ok [.int 0, .int ((N + 1 : Nat) : Int), .int 7] μ3) := by
      rw [bCons_s, bCon_s]
      simp only [ob]
      rw [bCons_s, bFn_s, bCons_s]
      simp only [bVar_s, d6, ob, bNil_s, dLenA_l, hln, rt, bCons_s, bCon_s]
    have hsm := small7 N (by omega)
    rw [bRng3_s ef (by decide) c7 hsm (rg7 N) (by omega), Int.toNat_natCast]
    unfold upD
    rw [List.map_map]
    have hfe : (fun j : Nat => D.int (0 + 7 * (j : Int))) = D.int ∘ fun k : Nat => 7 * (k : Int) := by
      funext k
      show D.int (0 + 7 * (k : Int)) = D.int (7 * (k : Int))
      rw [Int.zero_add]
    rw [hfe]) (by simp; omega) (fun x hx => by
    obtain ⟨k, hk, rfl⟩ := List.mem_map.mp hx
    refine ⟨rfl, fun _ => ?_⟩
    exact MT _ _ _ (by rw [List.getElem?_set_ne (by decide)]; exact L3.plan) (by
      have g11 : (ρ3.set 23 (some (D.int (7 * (k : Int)))))[11]? = some (some (.int pay)) := by rw [List.getElem?_set_ne (by decide)]; exact d11
      have g23 : (ρ3.set 23 (some (D.int (7 * (k : Int)))))[23]? = some (some (.int (7 * (k : Int)))) := List.getElem?_set_self (by rw [L3.len]; omega)
      simp [g11, g23]) (by omega))
  rw [List.filter_eq_self.mpr (by simp)] at e7
  have e8 : bSl3 (bVar 6) (bNoPart) (bNoPart) (bPart (bCon (.int 7))) ρ3 μ3 = some (.ok (.lst ((((List.range (N / 7 + 1)).map fun k : Nat => 7 * (k : Int)).map fun x => metV pay x ms).map .int)) μ3) := by
    unfold bSl3
    simp only [bVar_s, d6, ob, bNoPart_s, bPart_s, bCon_s]
    unfold dSl3
    simp only [vw, hln]
    rw [if_pos ⟨by decide, by omega⟩, step7, pick_map (fun x => metV pay x ms) (N + 1) _ fun i hi => by
      obtain ⟨k, hk, rfl⟩ := List.mem_map.mp hi
      rw [List.mem_range] at hk
      omega]
    simp only [rt]
    refine congrArg (fun z => some (Out.ok (D.lst z) μ3)) ?_
    simp only [List.map_map]
    apply List.map_congr_left
    intro k _
    have hk : ((7 * k : Nat) : Int) = 7 * (k : Int) := by omega
    show D.int (metV pay ((7 * k : Nat) : Int) ms) = D.int (metV pay (7 * (k : Int)) ms)
    rw [hk]
  have t2 : bTst (bBin dNeA (bComp [23] (bRng3 (bCons (bCon (.int 0)) (bCons (bFn dLenA (bCons (bVar 6) (bNil))) (bCons (bCon (.int 7)) (bNil))))) (tgName 23) (bYes) (bMeth T_met_part "met_part" (bVar 4) (bCons (bVar 11) (bCons (bVar 23) (bNil))))) (bSl3 (bVar 6) (bNoPart) (bNoPart) (bPart (bCon (.int 7))))) ρ3 μ3 = some (.ok false μ3) := by
    rw [bTst_s, bBin_s, e7]
    simp only [ob]
    rw [e8]
    simp only [ob, ne_self, rt]
  obtain ⟨w, ew, ⟨w0, w1⟩, w2, w3⟩ := leastall_s (pay := pay) P L3.mp ⟨p0, by omega⟩
  rw [hN] at w1 w2 w3
  have hmono : ∀ j : Nat, j ≤ N → metV pay j ms ≤ metV pay N ms := fun j hj => metV_mono p0 P.hms (by omega) (by omega)
  obtain ⟨wn, rfl⟩ : ∃ wn : Nat, w = wn := ⟨w.toNat, by omega⟩
  have hix : ((rngI 0 (N + 1)).map fun x => metV pay x ms).findIdx? (fun n => decide (n = metV pay N ms)) = some wn := by
    refine first_at (fun x => metV pay x ms) (by omega) ?_ fun j hj => ?_
    · have := hmono wn (by omega)
      show metV pay (wn : Int) ms = _
      omega
    · show metV pay (j : Int) ms ≠ _
      rcases w3 with w3 | w3
      · omega
      · have := metV_mono (a := (j : Int)) (b := (wn : Int) - 1) p0 P.hms (by omega) (by omega)
        omega
  have hmx := max_at (fun x => metV pay x ms) hmono
  have e9 : bIdxM (bVar 6) (bFn dMaxL (bCons (bVar 6) (bNil))) ρ3 μ3 = some (.ok (.int wn) μ3) := by
    have hmL : dMaxL μ3 [.lst (((rngI 0 (N + 1)).map fun x => metV pay x ms).map .int)] = some (.int (metV pay N ms)) := by
      unfold dMaxL
      simp only [vw, intsD_map]
      rw [hmx]
    have hdi : dIndex μ3 (.lst (((rngI 0 (N + 1)).map fun x => metV pay x ms).map .int)) (.int (metV pay N ms)) = some (.int wn) := by
      unfold dIndex
      simp only [vw, intsD_map, hix]
    have his : isLst μ3 (.lst (((rngI 0 (N + 1)).map fun x => metV pay x ms).map D.int)) = true := rfl
    unfold bIdxM
    simp only [bVar_s, d6, ob, his, if_true, bFn_s, bCons_s, bNil_s, hmL, rt, hdi]
  have t3 : bTst (bBin dNeA (bMeth T_least_for_all "least_for_all" (bVar 4) (bCons (bVar 11) (bNil))) (bIdxM (bVar 6) (bFn dMaxL (bCons (bVar 6) (bNil))))) ρ3 μ3 = some (.ok false μ3) := by
    rw [bTst_s, bBin_s, methP (F := M_Plan_least_for_all) (ds := [.int pay]) rfl (by decide) (by simp [L3.plan]) L3.mp (by simp [d11]) rfl, ew]
    simp only [ob]
    rw [e9]
    simp
  have rg10 : bRng1 (bCons (bCon (.int 10)) (bNil)) ρ3 μ3 = some (.ok ((rngI 0 10).map .int) μ3) := by
    rw [rng1_z (μ := μ3) (z := 10) (by omega) (by simp)]
    show some (Out.ok (rngD 0 10) μ3) = _
    rw [rngI_e]
  have e10 := comp_int (ρ := ρ3) (μ := μ3) (v := 19) (fit := bRng1 (bCons (bCon (.int 10)) (bNil))) (fc := bYes) (fe := bMeth T_owned_share "owned_share" (bVar 4) (bCons (bVar 19) (bNil))) (xs := rngI 0 10) (fun _ => true) (fun x => R os x) rg10 (by rw [rngI_len]; omega) (fun x hx => by
    have hb := rngI_mem hx
    refine ⟨rfl, fun _ => ?_⟩
    have g19 : (ρ3.set 19 (some (.int x)))[19]? = some (some (.int x)) := List.getElem?_set_self (by rw [L3.len]; omega)
    have g4 : (ρ3.set 19 (some (.int x)))[4]? = some (some (.ref np)) := by rw [List.getElem?_set_ne (by decide)]; exact L3.plan
    rw [methP (n := np) (F := M_Plan_owned_share) (ds := [.int x]) rfl (by decide) (by simp [g4]) L3.mp (by simp [g19]) rfl]
    exact share_s P L3.mp hb.1)
  have e11 := comp_int (ρ := ρ3) (μ := μ3) (v := 19) (fit := bRng1 (bCons (bCon (.int 10)) (bNil))) (fc := bYes) (fe := bBin dIxA (bComp [21, 23] (bItemsA (bVar 10)) (tgTup [tgName 21, tgName 23]) (bTst (bBin dLe (bVar 21) (bVar 19))) (bVar 23)) (bNeg (bCon (.int 1)))) (xs := rngI 0 10) (fun _ => true) (fun x => R os x) rg10 (by rw [rngI_len]; omega) (fun x hx => by
    have hb := rngI_mem hx
    refine ⟨rfl, fun _ => ?_⟩
    have l1 : (ρ3.set 19 (some (.int x))).length = 32 := by rw [List.length_set, L3.len]
    have g10 : (ρ3.set 19 (some (.int x)))[10]? = some (some (.lst (rwD os))) := by rw [List.getElem?_set_ne (by decide)]; exact L3.own
    have g19 : (wipeD (ρ3.set 19 (some (.int x))) [21, 23])[19]? = some (some (.int x)) := by
      show (((ρ3.set 19 (some (.int x))).set 23 none).set 21 none)[19]? = _
      rw [List.getElem?_set_ne (by decide), List.getElem?_set_ne (by decide), List.getElem?_set_self (by rw [L3.len]; omega)]
    have ec := cl_R (bs := os) (ρ := wipeD (ρ3.set 19 (some (.int x))) [21, 23]) (μ := μ3) (a := 21) (b := 23) (c := 19) (v := x) (by have := P.wb.len; omega) (by rw [wipe_len, l1]; omega) (by rw [wipe_len, l1]; omega) (by decide) (by decide) (by decide) g19
    have ea := at_R P.wb hb.1
    have e6 : bComp [21, 23] (bItemsA (bVar 10)) (tgTup [tgName 21, tgName 23]) (bTst (bBin dLe (bVar 21) (bVar 19))) (bVar 23) (ρ3.set 19 (some (.int x))) μ3 = some (.ok (.lst (((os.filter fun p => decide (p.1 ≤ x)).map (·.2)).map .int)) μ3) := by
      rw [bComp_s]
      simp only [bItemsA_s, bVar_s, ob, g10]
      rw [ec]
    rw [bBin_s, e6]
    simp only [ob, bNeg_s, bCon_s]
    rw [dIxA_l, ea]
    rfl)
  have t4 : bTst (bBin dNeA (bComp [19] (bRng1 (bCons (bCon (.int 10)) (bNil))) (tgName 19) (bYes) (bMeth T_owned_share "owned_share" (bVar 4) (bCons (bVar 19) (bNil)))) (bComp [19] (bRng1 (bCons (bCon (.int 10)) (bNil))) (tgName 19) (bYes) (bBin dIxA (bComp [21, 23] (bItemsA (bVar 10)) (tgTup [tgName 21, tgName 23]) (bTst (bBin dLe (bVar 21) (bVar 19))) (bVar 23)) (bNeg (bCon (.int 1)))))) ρ3 μ3 = some (.ok false μ3) := by
    rw [bTst_s, bBin_s, e10]
    simp only [ob]
    rw [e11]
    simp only [ob, ne_self, rt]
  have s7 : st7 ρ3 μ3 = some (.nx ρ3 μ3) := by
    unfold st7
    rw [cIf_s, bOrT_s, t1]
    simp only [ob, Bool.false_eq_true, if_false]
    rw [bOrT_s, t2]
    simp only [ob, Bool.false_eq_true, if_false]
    rw [bOrT_s, t3]
    simp only [ob, Bool.false_eq_true, if_false]
    rw [t4]
    rfl
  exact ⟨ρ3, μ3, L3, fun k => by rw [seq_nx s4 rfl, seq_nx s5 rfl, seq_nx s6 rfl, seq_nx s7 rfl]⟩
end
end K10

set_option linter.all false
set_option maxRecDepth 100000
set_option maxHeartbeats 4000000
namespace K10
open PySem Mi L2 Mw
def s9a : Cs := cAsg (bTup (bCons (bCallM hRoll (bCons (bVar 1) (bCons (bCon (.int 10)) (bNil)))) (bCons (bCallM hRoll (bCons (bVar 1) (bCons (bCon (.int 2000)) (bNil)))) (bCons (bCallM hRoll (bCons (bVar 1) (bCons (bCon (.int 400)) (bNil)))) (bCons (bBin dSub (bCallM hRoll (bCons (bVar 1) (bCons (bCon (.int 2000)) (bNil)))) (bCon (.int 700))) (bCons (bCallM hRoll (bCons (bVar 1) (bCons (bCon (.int 300)) (bNil)))) (bNil))))))) (tgTup [tgName 24, tgName 11, tgName 12, tgName 18, tgName 25])
def br1 : Cs := cSeq (cSet 26 (bFn dMax2 (bCons (bCon (.int 0)) (bCons (bFn dMin2 (bCons (bBin dDiv (bBin dMulA (bVar 11) (bFn dMin2 (bCons (bVar 12) (bCons (bVar 8) (bNil))))) (bCon (.int 1000))) (bCons (bBin dSub (bVar 9) (bBin dIxA (bVar 15) (bCon (.str "laid")))) (bNil)))) (bNil))))) (cSeq (cSet 27 (bCallP M__law_met (bCons (bVar 2) (bCons (bVar 11) (bCons (bVar 26) (bNil)))))) (cSeq (cExp (bUpd (bVar 15) (bDisp [(.inr "own", bBin dAdd (bBin dIxA (bVar 15) (bCon (.str "own"))) (bVar 26)), (.inr "laid", bBin dAdd (bBin dIxA (bVar 15) (bCon (.str "laid"))) (bVar 26)), (.inr "house", bBin dAdd (bBin dIxA (bVar 15) (bCon (.str "house"))) (bVar 27))]))) (cSet 28 (bBin dEqA (bMeth T_pay_in "pay_in" (bVar 14) (bCons (bVar 11) (bCons (bVar 12) (bNil)))) (bTup (bCons (bVar 26) (bCons (bVar 27) (bNil))))))))
def br2 : Cs := cSeq (cPar2 23 29 (bCons (bBin dDiv (bBin dMulA (bBin dIxA (bVar 15) (bCon (.str "own"))) (bVar 18)) (bCon (.int 10000))) (bCons (bBin dDiv (bBin dMulA (bBin dIxA (bVar 15) (bCon (.str "house"))) (bVar 18)) (bCon (.int 10000))) (bNil)))) (cSeq (cExp (bUpd (bVar 15) (bDisp [(.inr "own", bBin dAdd (bBin dIxA (bVar 15) (bCon (.str "own"))) (bVar 23)), (.inr "house", bBin dAdd (bBin dIxA (bVar 15) (bCon (.str "house"))) (bVar 29))]))) (cSet 28 (bBin dEqA (bMeth T_grow_by "grow_by" (bVar 14) (bCons (bVar 18) (bNil))) (bBin dAdd (bVar 23) (bVar 29)))))
def br3 : Cs := cSeq (cExp (bUpd (bVar 15) (bDisp [(.inr "laid", bCon (.int 0)), (.inr "years", bBin dAdd (bBin dIxA (bVar 15) (bCon (.str "years"))) (bCon (.int 1)))]))) (cSet 28 (bBin dIsN (bMeth T_begin_year "begin_year" (bVar 14) bNil) (bCon .non)))
def br4 : Cs := cSeq (cSet 30 (bChain dLt dLe (bCon (.int 0)) (bVar 25) (bBin dIxA (bVar 15) (bCon (.str "own"))))) (cSeq (cExp (bUpd (bVar 15) (bIf (bTru (bVar 30)) (bDisp [(.inr "own", bBin dSub (bBin dIxA (bVar 15) (bCon (.str "own"))) (bVar 25))]) (bDct0)))) (cSet 28 (bBin dEqA (bBin dIsN (bTold told_ret told_en (bMeth T_take_out "take_out" (bVar 14) (bCons (bVar 25) (bNil)))) (bCon .non)) (bVar 30))))
def br5 : Cs := cSeq (cSet 31 (bBin dAdd (bBin dIxA (bVar 15) (bCon (.str "own"))) (bBin dDiv (bBin dMulA (bBin dIxA (bVar 15) (bCon (.str "house"))) (bBin dIxA (bComp [21, 23] (bItemsA (bVar 10)) (tgTup [tgName 21, tgName 23]) (bTst (bBin dLe (bVar 21) (bBin dIxA (bVar 15) (bCon (.str "years"))))) (bVar 23)) (bNeg (bCon (.int 1))))) (bCon (.int 1000))))) (cSeq (cSet 28 (bAnd (bBin dEqA (bMeth T_owned_now "owned_now" (bVar 14) bNil) (bVar 31)) (bBin dEqA (bMeth T_leave_now "leave_now" (bVar 14) bNil) (bTup (bCons (bVar 31) (bCons (bBin dSub (bBin dAdd (bBin dIxA (bVar 15) (bCon (.str "own"))) (bBin dIxA (bVar 15) (bCon (.str "house")))) (bVar 31)) (bNil))))))) (cExp (bUpd (bVar 15) (bDisp [(.inr "own", bCon (.int 0)), (.inr "house", bCon (.int 0))]))))
def s9c : Cs := cIf (bNotT (bTru (bVar 28))) (cRet (bCon (.bl false))) (cNop)
def s9d : Cs := cIf (bTst (bBin dNeA (bTup (bCons (bFld C_own "own" (bVar 14)) (bCons (bFld C_house "house" (bVar 14)) (bCons (bFld C_laid "laid" (bVar 14)) (bCons (bFld C_years "years" (bVar 14)) (bNil)))))) (bTup (bCons (bBin dIxA (bVar 15) (bCon (.str "own"))) (bCons (bBin dIxA (bVar 15) (bCon (.str "house"))) (bCons (bBin dIxA (bVar 15) (bCon (.str "laid"))) (bCons (bBin dIxA (bVar 15) (bCon (.str "years"))) (bNil)))))))) (cRet (bCon (.bl false))) (cNop)
theorem st9_eq : st9 = cFor (bRng1 (bCons (bCallM hRoll (bCons (bVar 1) (bCons (bCon (.int 16)) (bNil)))) (bNil))) (tgName 7) (cSeq s9a (cSeq (cIf (bTst (bBin dLt (bVar 24) (bCon (.int 4)))) br1 (cIf (bTst (bBin dLt (bVar 24) (bCon (.int 6)))) br2 (cIf (bTst (bBin dEqA (bVar 24) (bCon (.int 6)))) br3 (cIf (bTst (bBin dLt (bVar 24) (bCon (.int 9)))) br4 br5)))) (cSeq s9c s9d))) := rfl
abbrev ks4 : List Key := [.inr "own", .inr "house", .inr "laid", .inr "years"]
def toldS (o h l y : Int) : SO := .dct ks4 [.int o, .int h, .int l, .int y]
theorem dEqA_b {μ : Sto} {a b : Bool} : dEqA μ (.bl a) (.bl b) = some (.bl (a == b)) := rfl
theorem tup_eq {μ : Sto} (xs : List Int) : dEqA μ (.tup (xs.map .int)) (.tup (xs.map .int)) = some (.bl true) := by
  rw [dEqA_of (eqB_tup xs xs)]; simp
theorem tup_ne {μ : Sto} (xs : List Int) : dNeA μ (.tup (xs.map .int)) (.tup (xs.map .int)) = some (.bl false) := by
  rw [dNeA_of (eqB_tup xs xs)]; simp
structure Sq (part most : Int) (ms os : Rows) (np nq nt : Nat) (o h l y : Int) (ρ : En) (μ : Sto) : Prop where
  lv : Lv part most ms os np ρ μ
  pot : ρ[14]? = some (some (.ref nq))
  told : ρ[15]? = some (some (.ref nt))
  mq : μ[nq]? = some (insQ np o h l y)
  mt : μ[nt]? = some (toldS o h l y)
  n1 : nq ≠ 0 ∧ nt ≠ 0 ∧ nq ≠ nt ∧ nq ≠ np ∧ nt ≠ np
  nn : 0 ≤ l ∧ 0 ≤ y
section
variable {part most o h l y : Int} {ms os : Rows} {np nq nt : Nat} {ρ : En} {μ μ' : Sto}
theorem Lv.put (H : Lv part most ms os np ρ μ) {i : Nat} (so : SO) (h0 : i ≠ 0) (h1 : i ≠ np) : Lv part most ms os np ρ (μ.set i so) := by
  obtain ⟨a, b, c, e⟩ := H.m0
  exact ⟨H.len, H.dice, H.mat, H.plan, H.prt, H.mst, H.own, ⟨a, b, c, by rw [List.getElem?_set_ne h0]; exact e⟩, by rw [List.getElem?_set_ne h1]; exact H.mp, H.nz⟩
theorem Sq.set (H : Sq part most ms os np nq nt o h l y ρ μ) (i : Nat) (v : Option D) (hi : i ∉ [1, 2, 4, 8, 9, 10, 14, 15]) : Sq part most ms os np nq nt o h l y (ρ.set i v) μ := by
  have h0 : i ∉ [1, 2, 4, 8, 9, 10] := fun z => hi (by
    simp only [List.mem_cons, List.not_mem_nil, or_false] at z ⊢
    omega)
  simp only [List.mem_cons, List.not_mem_nil, or_false, not_or] at hi
  obtain ⟨_, _, _, _, _, _, h7, h8⟩ := hi
  exact ⟨H.lv.set i v h0, by rw [List.getElem?_set_ne h7]; exact H.pot, by rw [List.getElem?_set_ne h8]; exact H.told, H.mq, H.mt, H.n1, H.nn⟩
theorem Sq.go (H : Sq part most ms os np nq nt o h l y ρ μ) (g : Go μ μ') : Sq part most ms os np nq nt o h l y ρ μ' := ⟨H.lv.go g, H.pot, H.told, g.2 nq _ H.n1.1 H.mq, g.2 nt _ H.n1.2.1 H.mt, H.n1, H.nn⟩
/-- both tell the new numbers -/
theorem Sq.both (H : Sq part most ms os np nq nt o h l y ρ μ) {o' h' l' y' : Int} (nn : 0 ≤ l' ∧ 0 ≤ y') : Sq part most ms os np nq nt o' h' l' y' ρ ((μ.set nt (toldS o' h' l' y')).set nq (insQ np o' h' l' y')) := by
  obtain ⟨a, b, c, d, e⟩ := H.n1
  have l1 : nq < μ.length := (List.getElem?_eq_some_iff.mp H.mq).1
  have l2 : nt < μ.length := (List.getElem?_eq_some_iff.mp H.mt).1
  exact ⟨(H.lv.put _ b e).put _ a d, H.pot, H.told, by rw [List.getElem?_set_self (by simp; exact l1)], by rw [List.getElem?_set_ne c, List.getElem?_set_self l2], H.n1, nn⟩
theorem Sq.both2 (H : Sq part most ms os np nq nt o h l y ρ μ) {o' h' l' y' : Int} (nn : 0 ≤ l' ∧ 0 ≤ y') : Sq part most ms os np nq nt o' h' l' y' ρ ((μ.set nq (insQ np o' h' l' y')).set nt (toldS o' h' l' y')) := by
  rw [List.set_comm _ _ H.n1.2.2.1]
  exact H.both nn
theorem tix (hm : μ[nt]? = some (toldS o h l y)) : dIxA μ (.ref nt) (.str "own") = some (.int o) ∧ dIxA μ (.ref nt) (.str "house") = some (.int h) ∧ dIxA μ (.ref nt) (.str "laid") = some (.int l) ∧ dIxA μ (.ref nt) (.str "years") = some (.int y) := by
  have hd : dctD μ (.ref nt) = some (ks4, [.int o, .int h, .int l, .int y]) := by
    unfold dctD
    simp only [hm, toldS]
  unfold dIxA
  rw [hd]
  exact ⟨rfl, rfl, rfl, rfl⟩
theorem upd_s {fo fd : Cb D} {js : List Key} {ys : List D} {o' h' l' y' : Int} (hm : μ[nt]? = some (toldS o h l y)) (ho : fo ρ μ = some (.ok (.ref nt) μ)) (hd : fd ρ μ = some (.ok (.dct js ys) μ)) (hl : js.length ≤ 100) (hy : lamfs ys = true) (hk : mergeKD ks4 [.int o, .int h, .int l, .int y] js ys = (ks4, [.int o', .int h', .int l', .int y'])) :
    cExp (bUpd fo fd) ρ μ = some (.nx ρ (μ.set nt (toldS o' h' l' y'))) := by
  have hi : isDct μ (.ref nt) = true := by
    unfold isDct dctD
    simp [hm, toldS]
  have hu : updPut μ (.ref nt) (.dct js ys) = some (μ.set nt (toldS o' h' l' y')) := by
    unfold updPut
    dsimp only
    rw [hm]
    show (if ks4.length + js.length ≤ 16777216 ∧ lamfs ys = true then _ else _) = _
    have h4 : ks4.length = 4 := rfl
    rw [if_pos ⟨by rw [h4]; omega, hy⟩, hk]
    rfl
  rw [cExp_s]
  unfold bUpd
  rw [ho]
  simp only [ob, hi, if_true, hd, hu, obS]
theorem nd1 : ([.inr "own", .inr "laid", .inr "house"] : List Key).Nodup := by decide
theorem nd2 : ([.inr "own", .inr "house"] : List Key).Nodup := by decide
theorem nd3 : ([.inr "laid", .inr "years"] : List Key).Nodup := by decide
theorem nd4 : ks4.Nodup := by decide
theorem disp3 {a b c : Cb D} {k1 k2 k3 : Key} {x1 x2 x3 : D} (hn : ([k1, k2, k3] : List Key).Nodup) (h1 : a ρ μ = some (.ok x1 μ)) (h2 : b ρ μ = some (.ok x2 μ)) (h3 : c ρ μ = some (.ok x3 μ)) : bDisp [(k1, a), (k2, b), (k3, c)] ρ μ = some (.ok (.dct [k1, k2, k3] [x1, x2, x3]) μ) := by
  rw [bDisp_s, if_pos ⟨by simp, hn⟩]
  simp [h1, h2, h3]
theorem disp2 {a b : Cb D} {k1 k2 : Key} {x1 x2 : D} (hn : ([k1, k2] : List Key).Nodup) (h1 : a ρ μ = some (.ok x1 μ)) (h2 : b ρ μ = some (.ok x2 μ)) : bDisp [(k1, a), (k2, b)] ρ μ = some (.ok (.dct [k1, k2] [x1, x2]) μ) := by
  rw [bDisp_s, if_pos ⟨by simp, hn⟩]
  simp [h1, h2]
theorem disp1 {a : Cb D} {k1 : Key} {x1 : D} (h1 : a ρ μ = some (.ok x1 μ)) : bDisp [(k1, a)] ρ μ = some (.ok (.dct [k1] [x1]) μ) := by
  rw [bDisp_s, if_pos ⟨by simp, by simp⟩]
  simp [h1]
/-- what a step of the account comes to -/
def StepTo (part most : Int) (ms os : Rows) (np nq nt : Nat) (c : Cs) (ρ : En) (μ : Sto) : Prop := ∃ ρ' μ' o h l y, c ρ μ = some (.nx ρ' μ') ∧ Sq part most ms os np nq nt o h l y ρ' μ' ∧ ρ'[28]? = some (some (.bl true))
theorem br1_s (F : Fa part most ms os) (H : Sq part most ms os np nq nt o h l y ρ μ) {pay mine : Int} (hp : 0 ≤ pay ∧ pay < 2000) (hm : 0 ≤ mine ∧ mine < 400) (h11 : ρ[11]? = some (some (.int pay))) (h12 : ρ[12]? = some (some (.int mine))) : StepTo part most ms os np nq nt br1 ρ μ := by
  have P := F.po
  have hpt := F.hpart
  have hmo := F.hmost
  have hl := H.nn.1
  have tx := tix H.mt
  have hmu : mulOk pay (mn mine part) = true := mul_small (by rw [mn_e]; omega)
  have s1 : cSet 26 (bFn dMax2 (bCons (bCon (.int 0)) (bCons (bFn dMin2 (bCons (bBin dDiv (bBin dMulA (bVar 11) (bFn dMin2 (bCons (bVar 12) (bCons (bVar 8) (bNil))))) (bCon (.int 1000))) (bCons (bBin dSub (bVar 9) (bBin dIxA (bVar 15) (bCon (.str "laid")))) (bNil)))) (bNil)))) ρ μ = some (.nx (ρ.set 26 (some (.int (ownV part most pay mine l)))) μ) := by
    simp [-dMin2_i, dMin2_m, -dMax2_i, dMax2_m, h11, h12, H.lv.prt, H.lv.mst, H.told, tx, hmu, div_k1, ownV]
  have hb : 0 ≤ ownV part most pay mine l ∧ ownV part most pay mine l ≤ 1000 := by unfold ownV; rw [mx_e, mn_e]; omega
  have epay := payin_s (mine := mine) P (h := h) (o := o) (y := y) (μ := μ.set nt (toldS (o + ownV part most pay mine l) (h + metV pay (ownV part most pay mine l) ms) (l + ownV part most pay mine l) y)) (m := nq) (n := np) (l := l) (by rw [List.getElem?_set_ne H.n1.2.2.2.2]; exact H.lv.mp) (by rw [List.getElem?_set_ne (Ne.symm H.n1.2.2.1)]; exact H.mq) hp.1 hm.1 hl
  generalize ownV part most pay mine l = put at *
  have L1 := H.set 26 (some (.int put)) (by decide)
  have g26 : (ρ.set 26 (some (.int put)))[26]? = some (some (.int put)) := List.getElem?_set_self (by rw [H.lv.len]; omega)
  have g11 : (ρ.set 26 (some (.int put)))[11]? = some (some (.int pay)) := by rw [List.getElem?_set_ne (by decide)]; exact h11
  have g12 : (ρ.set 26 (some (.int put)))[12]? = some (some (.int mine)) := by rw [List.getElem?_set_ne (by decide)]; exact h12
  generalize (ρ.set 26 (some (.int put)) : En) = ρ1 at s1 L1 g26 g11 g12
  have em := lmet_s (pay := pay) (own := put) (ms := ms) ⟨⟨hp.1, by omega⟩, P.hms, P.hml⟩ (by omega)
  have s2 : cSet 27 (bCallP M__law_met (bCons (bVar 2) (bCons (bVar 11) (bCons (bVar 26) (bNil))))) ρ1 μ = some (.nx (ρ1.set 27 (some (.int (metV pay put ms)))) μ) := by
    simp [g26, g11, L1.lv.mat, purs, pur, purs_rw, em]
  generalize metV pay put ms = mt at *
  have L2' := L1.set 27 (some (.int mt)) (by decide)
  have k26 : (ρ1.set 27 (some (.int mt)))[26]? = some (some (.int put)) := by rw [List.getElem?_set_ne (by decide)]; exact g26
  have k11 : (ρ1.set 27 (some (.int mt)))[11]? = some (some (.int pay)) := by rw [List.getElem?_set_ne (by decide)]; exact g11
  have k12 : (ρ1.set 27 (some (.int mt)))[12]? = some (some (.int mine)) := by rw [List.getElem?_set_ne (by decide)]; exact g12
  have k27 : (ρ1.set 27 (some (.int mt)))[27]? = some (some (.int mt)) := List.getElem?_set_self (by rw [L1.lv.len]; omega)
  generalize (ρ1.set 27 (some (.int mt)) : En) = ρ2 at s2 L2' k26 k11 k12 k27
  have s3 := upd_s (ρ := ρ2) (fo := bVar 15) (o' := o + put) (h' := h + mt) (l' := l + put) (y' := y) L2'.mt (by simp [L2'.told]) (disp3 nd1 (a := bBin dAdd (bBin dIxA (bVar 15) (bCon (.str "own"))) (bVar 26)) (b := bBin dAdd (bBin dIxA (bVar 15) (bCon (.str "laid"))) (bVar 26)) (c := bBin dAdd (bBin dIxA (bVar 15) (bCon (.str "house"))) (bVar 27)) (by simp [L2'.told, tx, k26]) (by simp [L2'.told, tx, k26]) (by simp [L2'.told, tx, k27])) (by simp) rfl rfl
  have B := L2'.both (o' := o + put) (h' := h + mt) (l' := l + put) (y' := y) ⟨by omega, H.nn.2⟩
  have em14 : bMeth T_pay_in "pay_in" (bVar 14) (bCons (bVar 11) (bCons (bVar 12) (bNil))) ρ2 (μ.set nt (toldS (o + put) (h + mt) (l + put) y)) = some (.ok (.tup [.int put, .int mt]) ((μ.set nt (toldS (o + put) (h + mt) (l + put) y)).set nq (insQ np (o + put) (h + mt) (l + put) y))) := by
    rw [methQ (m := nq) (μ2 := μ.set nt (toldS (o + put) (h + mt) (l + put) y)) (F := M_Pot_pay_in) (ds := [.int pay, .int mine]) (n := np) (o := o) (h := h) (l := l) (y := y) rfl (by decide) (by simp [L2'.pot]) (by rw [List.getElem?_set_ne (Ne.symm H.n1.2.2.1)]; exact H.mq) (by simp [k11, k12]) rfl]
    exact epay
  have s4 : cSet 28 (bBin dEqA (bMeth T_pay_in "pay_in" (bVar 14) (bCons (bVar 11) (bCons (bVar 12) (bNil)))) (bTup (bCons (bVar 26) (bCons (bVar 27) (bNil))))) ρ2 (μ.set nt (toldS (o + put) (h + mt) (l + put) y)) = some (.nx (ρ2.set 28 (some (.bl true))) ((μ.set nt (toldS (o + put) (h + mt) (l + put) y)).set nq (insQ np (o + put) (h + mt) (l + put) y))) := by
    have := tup_eq (μ := (μ.set nt (toldS (o + put) (h + mt) (l + put) y)).set nq (insQ np (o + put) (h + mt) (l + put) y)) [put, mt]
    rw [List.map_cons, List.map_cons, List.map_nil] at this
    rw [cSet_s, bBin_s, em14]
    simp [k26, k27, this]
  exact ⟨_, _, _, _, _, _, seq_nx s1 (seq_nx s2 (seq_nx s3 s4)), B.set 28 (some (.bl true)) (by decide), List.getElem?_set_self (by rw [L2'.lv.len]; omega)⟩
theorem br2_s (H : Sq part most ms os np nq nt o h l y ρ μ) {p : Int} (hp : -700 ≤ p ∧ p < 1300) (h18 : ρ[18]? = some (some (.int p))) : StepTo part most ms os np nq nt br2 ρ μ := by
  have tx := tix H.mt
  have hm1 : mulOk o p = true := mul_small (by omega)
  have hm2 : mulOk h p = true := mul_small (by omega)
  have s1 : cPar2 23 29 (bCons (bBin dDiv (bBin dMulA (bBin dIxA (bVar 15) (bCon (.str "own"))) (bVar 18)) (bCon (.int 10000))) (bCons (bBin dDiv (bBin dMulA (bBin dIxA (bVar 15) (bCon (.str "house"))) (bVar 18)) (bCon (.int 10000))) (bNil))) ρ μ = some (.nx ((ρ.set 23 (some (.int (o * p / 10000)))).set 29 (some (.int (h * p / 10000)))) μ) := by
    simp [H.told, tx, h18, hm1, hm2, div_k]
  have L1 := (H.set 23 (some (.int (o * p / 10000))) (by decide)).set 29 (some (.int (h * p / 10000))) (by decide)
  generalize hρ1 : ((ρ.set 23 (some (.int (o * p / 10000)))).set 29 (some (.int (h * p / 10000))) : En) = ρ1 at s1 L1
  have g23 : ρ1[23]? = some (some (.int (o * p / 10000))) := by rw [← hρ1]; simp [List.getElem?_set, H.lv.len]
  have g29 : ρ1[29]? = some (some (.int (h * p / 10000))) := by rw [← hρ1]; simp [List.getElem?_set, H.lv.len]
  have g18 : ρ1[18]? = some (some (.int p)) := by rw [← hρ1]; simp [List.getElem?_set, h18]
  have s3 := upd_s (ρ := ρ1) (fo := bVar 15) (o' := o + o * p / 10000) (h' := h + h * p / 10000) (l' := l) (y' := y) L1.mt (by simp [L1.told]) (disp2 nd2 (a := bBin dAdd (bBin dIxA (bVar 15) (bCon (.str "own"))) (bVar 23)) (b := bBin dAdd (bBin dIxA (bVar 15) (bCon (.str "house"))) (bVar 29)) (by simp [L1.told, tx, g23]) (by simp [L1.told, tx, g29])) (by simp) rfl rfl
  have B := L1.both (o' := o + o * p / 10000) (h' := h + h * p / 10000) (l' := l) (y' := y) H.nn
  have hq2 : (μ.set nt (toldS (o + o * p / 10000) (h + h * p / 10000) l y))[nq]? = some (insQ np o h l y) := by rw [List.getElem?_set_ne (Ne.symm H.n1.2.2.1)]; exact H.mq
  have em14 : bMeth T_grow_by "grow_by" (bVar 14) (bCons (bVar 18) (bNil)) ρ1 (μ.set nt (toldS (o + o * p / 10000) (h + h * p / 10000) l y)) = some (.ok (.int (o * p / 10000 + h * p / 10000)) ((μ.set nt (toldS (o + o * p / 10000) (h + h * p / 10000) l y)).set nq (insQ np (o + o * p / 10000) (h + h * p / 10000) l y))) := by
    rw [methQ (m := nq) (μ2 := μ.set nt (toldS (o + o * p / 10000) (h + h * p / 10000) l y)) (F := M_Pot_grow_by) (ds := [.int p]) rfl (by decide) (by simp [L1.pot]) hq2 (by simp [g18]) rfl]
    exact grow_s hq2 (by omega)
  have s4 : cSet 28 (bBin dEqA (bMeth T_grow_by "grow_by" (bVar 14) (bCons (bVar 18) (bNil))) (bBin dAdd (bVar 23) (bVar 29))) ρ1 (μ.set nt (toldS (o + o * p / 10000) (h + h * p / 10000) l y)) = some (.nx (ρ1.set 28 (some (.bl true))) ((μ.set nt (toldS (o + o * p / 10000) (h + h * p / 10000) l y)).set nq (insQ np (o + o * p / 10000) (h + h * p / 10000) l y))) := by
    rw [cSet_s, bBin_s, em14]
    simp [g23, g29]
  exact ⟨_, _, _, _, _, _, seq_nx s1 (seq_nx s3 s4), B.set 28 (some (.bl true)) (by decide), List.getElem?_set_self (by rw [L1.lv.len]; omega)⟩
theorem br3_s (H : Sq part most ms os np nq nt o h l y ρ μ) : StepTo part most ms os np nq nt br3 ρ μ := by
  have tx := tix H.mt
  have s3 := upd_s (ρ := ρ) (fo := bVar 15) (o' := o) (h' := h) (l' := 0) (y' := y + 1) H.mt (by simp [H.told]) (disp2 nd3 (a := bCon (.int 0)) (b := bBin dAdd (bBin dIxA (bVar 15) (bCon (.str "years"))) (bCon (.int 1))) (by simp) (by simp [H.told, tx])) (by simp) rfl rfl
  have B := H.both (o' := o) (h' := h) (l' := 0) (y' := y + 1) ⟨Int.le_refl 0, by have := H.nn.2; omega⟩
  have hq2 : (μ.set nt (toldS o h 0 (y + 1)))[nq]? = some (insQ np o h l y) := by rw [List.getElem?_set_ne (Ne.symm H.n1.2.2.1)]; exact H.mq
  have em14 : bMeth T_begin_year "begin_year" (bVar 14) bNil ρ (μ.set nt (toldS o h 0 (y + 1))) = some (.ok .non ((μ.set nt (toldS o h 0 (y + 1))).set nq (insQ np o h 0 (y + 1)))) := by
    rw [meth0Q (F := M_Pot_begin_year) rfl (by decide) (by simp [H.pot]) hq2]
    exact begin_s hq2
  have s4 : cSet 28 (bBin dIsN (bMeth T_begin_year "begin_year" (bVar 14) bNil) (bCon .non)) ρ (μ.set nt (toldS o h 0 (y + 1))) = some (.nx (ρ.set 28 (some (.bl true))) ((μ.set nt (toldS o h 0 (y + 1))).set nq (insQ np o h 0 (y + 1)))) := by
    rw [cSet_s, bBin_s, em14]
    rfl
  exact ⟨_, _, _, _, _, _, seq_nx s3 s4, B.set 28 (some (.bl true)) (by decide), List.getElem?_set_self (by rw [H.lv.len]; omega)⟩
theorem br4_s (H : Sq part most ms os np nq nt o h l y ρ μ) {m : Int} (h25 : ρ[25]? = some (some (.int m))) : StepTo part most ms os np nq nt br4 ρ μ := by
  have tx := tix H.mt
  have s1 : cSet 30 (bChain dLt dLe (bCon (.int 0)) (bVar 25) (bBin dIxA (bVar 15) (bCon (.str "own")))) ρ μ = some (.nx (ρ.set 30 (some (.bl (decide (0 < m ∧ m ≤ o))))) μ) := by
    by_cases h1 : 0 < m
    · by_cases h2 : m ≤ o
      · simp [H.told, tx, h25, h1, h2]
      · simp [H.told, tx, h25, h1, h2]
    · simp [h25, h1]
  have L1 := H.set 30 (some (.bl (decide (0 < m ∧ m ≤ o)))) (by decide)
  have g30 : (ρ.set 30 (some (.bl (decide (0 < m ∧ m ≤ o)))))[30]? = some (some (.bl (decide (0 < m ∧ m ≤ o)))) := List.getElem?_set_self (by rw [H.lv.len]; omega)
  have g25 : (ρ.set 30 (some (.bl (decide (0 < m ∧ m ≤ o)))))[25]? = some (some (.int m)) := by rw [List.getElem?_set_ne (by decide)]; exact h25
  generalize (ρ.set 30 (some (.bl (decide (0 < m ∧ m ≤ o)))) : En) = ρ1 at s1 L1 g30 g25
  by_cases hc : 0 < m ∧ m ≤ o
  · have g30' : ρ1[30]? = some (some (.bl true)) := by rw [g30, decide_eq_true hc]
    have hd : bIf (bTru (bVar 30)) (bDisp [(.inr "own", bBin dSub (bBin dIxA (bVar 15) (bCon (.str "own"))) (bVar 25))]) (bDct0) ρ1 μ = some (.ok (.dct [.inr "own"] [.int (o - m)]) μ) := by
      have := disp1 (ρ := ρ1) (μ := μ) (k1 := .inr "own") (a := bBin dSub (bBin dIxA (bVar 15) (bCon (.str "own"))) (bVar 25)) (x1 := .int (o - m)) (by simp [L1.told, tx, g25])
      rw [bIf_s, bTru_s]
      simp only [bVar_s, g30', ob, trD, rt, if_true]
      exact this
    have s3 := upd_s (ρ := ρ1) (fo := bVar 15) (o' := o - m) (h' := h) (l' := l) (y' := y) L1.mt (by simp [L1.told]) hd (by simp) rfl rfl
    have B := L1.both (o' := o - m) (h' := h) (l' := l) (y' := y) H.nn
    have hq2 : (μ.set nt (toldS (o - m) h l y))[nq]? = some (insQ np o h l y) := by rw [List.getElem?_set_ne (Ne.symm H.n1.2.2.1)]; exact H.mq
    have em14 : bMeth T_take_out "take_out" (bVar 14) (bCons (bVar 25) (bNil)) ρ1 (μ.set nt (toldS (o - m) h l y)) = some (.ok .non ((μ.set nt (toldS (o - m) h l y)).set nq (insQ np (o - m) h l y))) := by
      rw [methQ (m := nq) (μ2 := μ.set nt (toldS (o - m) h l y)) (F := M_Pot_take_out) (ds := [.int m]) rfl (by decide) (by simp [L1.pot]) hq2 (by simp [g25]) rfl, take_s hq2, if_pos hc]
    have s4 : cSet 28 (bBin dEqA (bBin dIsN (bTold told_ret told_en (bMeth T_take_out "take_out" (bVar 14) (bCons (bVar 25) (bNil)))) (bCon .non)) (bVar 30)) ρ1 (μ.set nt (toldS (o - m) h l y)) = some (.nx (ρ1.set 28 (some (.bl true))) ((μ.set nt (toldS (o - m) h l y)).set nq (insQ np (o - m) h l y))) := by
      rw [cSet_s, bBin_s, bBin_s, bTold_s, em14]
      simp only [ob, bCon_s]
      simp [dIsN, Mi.isNon, g30', dEqA_b]
    exact ⟨_, _, _, _, _, _, seq_nx s1 (seq_nx s3 s4), B.set 28 (some (.bl true)) (by decide), List.getElem?_set_self (by rw [L1.lv.len]; omega)⟩
  · have g30' : ρ1[30]? = some (some (.bl false)) := by rw [g30, decide_eq_false hc]
    have hd : bIf (bTru (bVar 30)) (bDisp [(.inr "own", bBin dSub (bBin dIxA (bVar 15) (bCon (.str "own"))) (bVar 25))]) (bDct0) ρ1 μ = some (.ok (.dct [] []) μ) := by
      rw [bIf_s, bTru_s]
      simp only [bVar_s, g30', ob, trD, rt, if_true]
      rfl
    have s3 := upd_s (ρ := ρ1) (fo := bVar 15) (o' := o) (h' := h) (l' := l) (y' := y) L1.mt (by simp [L1.told]) hd (by simp) rfl rfl
    have hts : μ.set nt (toldS o h l y) = μ := by
      apply List.ext_getElem?
      intro i
      by_cases hi : nt = i
      · rw [← hi, List.getElem?_set_self (List.getElem?_eq_some_iff.mp H.mt).1, H.mt]
      · rw [List.getElem?_set_ne hi]
    rw [hts] at s3
    have em14 : bMeth T_take_out "take_out" (bVar 14) (bCons (bVar 25) (bNil)) ρ1 μ = some (.exc "PensionError" μ) := by
      rw [methQ (m := nq) (μ2 := μ) (F := M_Pot_take_out) (ds := [.int m]) rfl (by decide) (by simp [L1.pot]) H.mq (by simp [g25]) rfl, take_s H.mq, if_neg hc]
    have s4 : cSet 28 (bBin dEqA (bBin dIsN (bTold told_ret told_en (bMeth T_take_out "take_out" (bVar 14) (bCons (bVar 25) (bNil)))) (bCon .non)) (bVar 30)) ρ1 μ = some (.nx (ρ1.set 28 (some (.bl true))) μ) := by
      rw [cSet_s, bBin_s, bBin_s, bTold_s, em14]
      simp only [ob, bCon_s]
      simp [dIsN, Mi.isNon, g30', dEqA_b]
    exact ⟨_, _, _, _, _, _, seq_nx s1 (seq_nx s3 s4), L1.set 28 (some (.bl true)) (by decide), List.getElem?_set_self (by rw [L1.lv.len]; omega)⟩
theorem br5_s (F : Fa part most ms os) (H : Sq part most ms os np nq nt o h l y ρ μ) : StepTo part most ms os np nq nt br5 ρ μ := by
  have P := F.po
  have tx := tix H.mt
  have hR := P.wb.R y
  have hlen := P.wb.len
  have e := cl_pure (t := tgTup [tgName 21, tgName 23]) (fc := bTst (bBin dLe (bVar 21) (bBin dIxA (bVar 15) (bCon (.str "years"))))) (fe := bVar 23) (ρ := wipeD ρ [21, 23]) (μ := μ) (fun d => match d with | .tup [.int a, .int _] => decide (a ≤ y) | _ => false) (fun d => match d with | .tup [.int _, .int b] => .int b | _ => .non) (rwD os) [] (fun d hd => by
    obtain ⟨q, hq, rfl⟩ := List.mem_map.mp hd
    have l2 : (wipeD ρ [21, 23]).length = 32 := by rw [wipe_len]; exact H.lv.len
    have g15 : (((wipeD ρ [21, 23]).set 21 (some (.int q.1))).set 23 (some (.int q.2)))[15]? = some (some (.ref nt)) := by
      show ((((ρ.set 23 none).set 21 none).set 21 (some (.int q.1))).set 23 (some (.int q.2)))[15]? = _
      rw [List.getElem?_set_ne (by decide), List.getElem?_set_ne (by decide), List.getElem?_set_ne (by decide), List.getElem?_set_ne (by decide)]; exact H.told
    have g21 : (((wipeD ρ [21, 23]).set 21 (some (.int q.1))).set 23 (some (.int q.2)))[21]? = some (some (.int q.1)) := by rw [List.getElem?_set_ne (by decide), List.getElem?_set_self (by rw [l2]; omega)]
    have g23 : (((wipeD ρ [21, 23]).set 21 (some (.int q.1))).set 23 (some (.int q.2)))[23]? = some (some (.int q.2)) := by rw [List.getElem?_set_self (by rw [List.length_set, l2]; omega)]
    exact ⟨_, by simp; rfl, by simp [g15, g21, tx], fun _ => by simp [g23]⟩) (by rw [rwD_len]; simp; omega)
  have ec : bComp [21, 23] (bItemsA (bVar 10)) (tgTup [tgName 21, tgName 23]) (bTst (bBin dLe (bVar 21) (bBin dIxA (bVar 15) (bCon (.str "years"))))) (bVar 23) ρ μ = some (.ok (.lst (((os.filter fun p => decide (p.1 ≤ y)).map (·.2)).map .int)) μ) := by
    have hit : bItemsA (bVar 10) ρ μ = some (.ok (rwD os) μ) := by simp [H.lv.own]
    rw [bComp_s, hit]
    simp only [ob]
    rw [e, List.nil_append]
    unfold rwD
    rw [List.filter_map, List.map_map, List.map_map]
    rfl
  have ea := at_R P.wb H.nn.2
  have hmu : mulOk h (R os y) = true := mul_small (by omega)
  have eix : bBin dIxA (bComp [21, 23] (bItemsA (bVar 10)) (tgTup [tgName 21, tgName 23]) (bTst (bBin dLe (bVar 21) (bBin dIxA (bVar 15) (bCon (.str "years"))))) (bVar 23)) (bNeg (bCon (.int 1))) ρ μ = some (.ok (.int (R os y)) μ) := by
    rw [bBin_s, ec]
    simp only [ob, bNeg_s, bCon_s]
    rw [dIxA_l, ea]
    rfl
  have s1 : cSet 31 (bBin dAdd (bBin dIxA (bVar 15) (bCon (.str "own"))) (bBin dDiv (bBin dMulA (bBin dIxA (bVar 15) (bCon (.str "house"))) (bBin dIxA (bComp [21, 23] (bItemsA (bVar 10)) (tgTup [tgName 21, tgName 23]) (bTst (bBin dLe (bVar 21) (bBin dIxA (bVar 15) (bCon (.str "years"))))) (bVar 23)) (bNeg (bCon (.int 1))))) (bCon (.int 1000)))) ρ μ = some (.nx (ρ.set 31 (some (.int (ownedV os o h y)))) μ) := by
    have x1 : bBin dIxA (bVar 15) (bCon (.str "own")) ρ μ = some (.ok (.int o) μ) := by simp [H.told, tx]
    have x2 : bBin dIxA (bVar 15) (bCon (.str "house")) ρ μ = some (.ok (.int h) μ) := by simp [H.told, tx]
    rw [cSet_s, bBin_s, x1]
    simp only [ob]
    rw [bBin_s, bBin_s, x2]
    simp only [ob]
    rw [eix]
    simp [hmu, div_k1, ownedV]
  have L1 := H.set 31 (some (.int (ownedV os o h y))) (by decide)
  have g31 : (ρ.set 31 (some (.int (ownedV os o h y))))[31]? = some (some (.int (ownedV os o h y))) := List.getElem?_set_self (by rw [H.lv.len]; omega)
  generalize (ρ.set 31 (some (.int (ownedV os o h y))) : En) = ρ1 at s1 L1 g31
  have m1 : bMeth T_owned_now "owned_now" (bVar 14) bNil ρ1 μ = some (.ok (.int (ownedV os o h y)) μ) := by
    rw [meth0Q (F := M_Pot_owned_now) rfl (by decide) (by simp [L1.pot]) L1.mq]
    exact owned_s P L1.lv.mp L1.mq H.nn.2
  have m2 : bMeth T_leave_now "leave_now" (bVar 14) bNil ρ1 μ = some (.ok (.tup [.int (ownedV os o h y), .int (o + h - ownedV os o h y)]) (μ.set nq (insQ np 0 0 l y))) := by
    rw [meth0Q (F := M_Pot_leave_now) rfl (by decide) (by simp [L1.pot]) L1.mq]
    exact leave_s P L1.lv.mp L1.mq H.nn.2
  generalize ownedV os o h y = ov at *
  have hm3 : (μ.set nq (insQ np 0 0 l y))[nt]? = some (toldS o h l y) := by rw [List.getElem?_set_ne H.n1.2.2.1]; exact H.mt
  have tx3 := tix hm3
  have s2 : cSet 28 (bAnd (bBin dEqA (bMeth T_owned_now "owned_now" (bVar 14) bNil) (bVar 31)) (bBin dEqA (bMeth T_leave_now "leave_now" (bVar 14) bNil) (bTup (bCons (bVar 31) (bCons (bBin dSub (bBin dAdd (bBin dIxA (bVar 15) (bCon (.str "own"))) (bBin dIxA (bVar 15) (bCon (.str "house")))) (bVar 31)) (bNil)))))) ρ1 μ = some (.nx (ρ1.set 28 (some (.bl true))) (μ.set nq (insQ np 0 0 l y))) := by
    have y1 : bBin dEqA (bMeth T_owned_now "owned_now" (bVar 14) bNil) (bVar 31) ρ1 μ = some (.ok (.bl true) μ) := by
      rw [bBin_s, m1]
      simp [g31]
    have y2 : bTup (bCons (bVar 31) (bCons (bBin dSub (bBin dAdd (bBin dIxA (bVar 15) (bCon (.str "own"))) (bBin dIxA (bVar 15) (bCon (.str "house")))) (bVar 31)) (bNil))) ρ1 (μ.set nq (insQ np 0 0 l y)) = some (.ok (.tup [.int ov, .int (o + h - ov)]) (μ.set nq (insQ np 0 0 l y))) := by
      simp [g31, L1.told, tx3]
    have y3 : bBin dEqA (bMeth T_leave_now "leave_now" (bVar 14) bNil) (bTup (bCons (bVar 31) (bCons (bBin dSub (bBin dAdd (bBin dIxA (bVar 15) (bCon (.str "own"))) (bBin dIxA (bVar 15) (bCon (.str "house")))) (bVar 31)) (bNil)))) ρ1 μ = some (.ok (.bl true) (μ.set nq (insQ np 0 0 l y))) := by
      have := tup_eq (μ := μ.set nq (insQ np 0 0 l y)) [ov, o + h - ov]
      rw [List.map_cons, List.map_cons, List.map_nil] at this
      rw [bBin_s, m2]
      simp only [ob]
      rw [y2]
      simp only [ob, this, rt]
    rw [cSet_s, bAnd_s, y1]
    simp only [ob, onB]
    rw [y3]
    rfl
  have L3 : (ρ1.set 28 (some (.bl true)))[15]? = some (some (.ref nt)) := by rw [List.getElem?_set_ne (by decide)]; exact L1.told
  have s3 := upd_s (ρ := ρ1.set 28 (some (.bl true))) (μ := μ.set nq (insQ np 0 0 l y)) (fo := bVar 15) (o' := 0) (h' := 0) (l' := l) (y' := y) hm3 (by simp [L3]) (disp2 nd2 (a := bCon (.int 0)) (b := bCon (.int 0)) (by simp) (by simp)) (by simp) rfl rfl
  have B := (L1.set 28 (some (.bl true)) (by decide)).both2 (o' := 0) (h' := 0) (l' := l) (y' := y) H.nn
  exact ⟨_, _, _, _, _, _, seq_nx s1 (seq_nx s2 s3), B, List.getElem?_set_self (by rw [L1.lv.len]; omega)⟩
end
end K10

set_option linter.all false
set_option maxRecDepth 100000
set_option maxHeartbeats 4000000
namespace K10
open PySem Mi L2 Mw
section
variable {part most : Int} {ms os : Rows} {np nq nt : Nat} {ρ : En} {μ μ' : Sto}
theorem st8_s (H : Lv part most ms os np ρ μ) : ∃ nq nt ρ' μ', st8 ρ μ = some (.nx ρ' μ') ∧ Sq part most ms os np nq nt 0 0 0 0 ρ' μ' := by
  have hz := H.nz
  have hnp : np < μ.length := (List.getElem?_eq_some_iff.mp H.mp).1
  have e1 := qmake_s (n := np) (ρ := ρ) (fs := bCons (bVar 4) (bNil)) (μ := μ) (μ0 := μ) (by simp [H.plan])
  have e2 : bDctM [(.inr "own", bCon (.int 0)), (.inr "house", bCon (.int 0)), (.inr "laid", bCon (.int 0)), (.inr "years", bCon (.int 0))] ρ (μ ++ [insQ np 0 0 0 0]) = some (.ok (.ref (μ.length + 1)) ((μ ++ [insQ np 0 0 0 0]) ++ [toldS 0 0 0 0])) := by
    unfold bDctM
    rw [if_pos ⟨by simp, nd4⟩]
    simp [lamfs, lamf, toldS]
  have s8 : st8 ρ μ = some (.nx ((ρ.set 14 (some (.ref μ.length))).set 15 (some (.ref (μ.length + 1)))) ((μ ++ [insQ np 0 0 0 0]) ++ [toldS 0 0 0 0])) := by
    unfold st8
    rw [cAsg_s, bTup_s, bCons_s, e1]
    simp only [ob]
    rw [bCons_s, e2]
    simp
  have L := ((H.go (pre_go ((pre_app μ [insQ np 0 0 0 0]).trans (pre_app _ [toldS 0 0 0 0])))).set 14 (some (.ref μ.length)) (by decide)).set 15 (some (.ref (μ.length + 1))) (by decide)
  refine ⟨μ.length, μ.length + 1, _, _, s8, L, by rw [List.getElem?_set_ne (by decide), List.getElem?_set_self (by rw [H.len]; omega)], by rw [List.getElem?_set_self (by rw [List.length_set, H.len]; omega)], (pre_app _ _).get get_last, ?_, ⟨by omega, by omega, by omega, by omega, by omega⟩, Int.le_refl 0, Int.le_refl 0⟩
  have := get_last (μ := μ ++ [insQ np 0 0 0 0]) (x := toldS 0 0 0 0)
  rw [List.length_append] at this
  exact this
theorem body9_s (F : Fa part most ms os) {o h l y : Int} (H : Sq part most ms os np nq nt o h l y ρ μ) : ∃ ρ' μ' o' h' l' y', (cSeq s9a (cSeq (cIf (bTst (bBin dLt (bVar 24) (bCon (.int 4)))) br1 (cIf (bTst (bBin dLt (bVar 24) (bCon (.int 6)))) br2 (cIf (bTst (bBin dEqA (bVar 24) (bCon (.int 6)))) br3 (cIf (bTst (bBin dLt (bVar 24) (bCon (.int 9)))) br4 br5)))) (cSeq s9c s9d))) ρ μ = some (.nx ρ' μ') ∧ Sq part most ms os np nq nt o' h' l' y' ρ' μ' := by
  have D0 := H.lv.m0
  obtain ⟨so, μ1, so0, so1, e1, g1, _⟩ := rollG D0 (many := 10) (by omega) (by omega)
  have D1 := g1.1 D0
  obtain ⟨pay, μ2, p0, p1, e2, g2, _⟩ := rollG D1 (many := 2000) (by omega) (by omega)
  have D2 := g2.1 D1
  obtain ⟨mine, μ3, m0, m1, e3, g3, _⟩ := rollG D2 (many := 400) (by omega) (by omega)
  have D3 := g3.1 D2
  obtain ⟨pa, μ4, pa0, pa1, e4, g4, _⟩ := rollG D3 (many := 2000) (by omega) (by omega)
  have D4 := g4.1 D3
  obtain ⟨mo, μ5, mo0, mo1, e5, g5, _⟩ := rollG D4 (many := 300) (by omega) (by omega)
  have c1 := callR H.lv.dice e1
  have c2 := callR H.lv.dice e2
  have c3 := callR H.lv.dice e3
  have c4 := callR H.lv.dice e4
  have c5 := callR H.lv.dice e5
  have s1 : s9a ρ μ = some (.nx (((((ρ.set 24 (some (.int so))).set 11 (some (.int pay))).set 12 (some (.int mine))).set 18 (some (.int (pa - 700)))).set 25 (some (.int mo))) μ5) := by
    unfold s9a
    simp [-bCallM_s, c1, c2, c3, c4, c5]
  have L1 := (((((H.go ((((g1.trans g2).trans g3).trans g4).trans g5)).set 24 (some (.int so)) (by decide)).set 11 (some (.int pay)) (by decide)).set 12 (some (.int mine)) (by decide)).set 18 (some (.int (pa - 700))) (by decide)).set 25 (some (.int mo)) (by decide)
  generalize hρ1 : (((((ρ.set 24 (some (.int so))).set 11 (some (.int pay))).set 12 (some (.int mine))).set 18 (some (.int (pa - 700)))).set 25 (some (.int mo)) : En) = ρ1 at s1 L1
  have l0 := H.lv.len
  have g24 : ρ1[24]? = some (some (.int so)) := by rw [← hρ1]; simp [List.getElem?_set, l0]
  have g11 : ρ1[11]? = some (some (.int pay)) := by rw [← hρ1]; simp [List.getElem?_set, l0]
  have g12 : ρ1[12]? = some (some (.int mine)) := by rw [← hρ1]; simp [List.getElem?_set, l0]
  have g18 : ρ1[18]? = some (some (.int (pa - 700))) := by rw [← hρ1]; simp [List.getElem?_set, l0]
  have g25 : ρ1[25]? = some (some (.int mo)) := by rw [← hρ1]; simp [List.getElem?_set, l0]
  have key : StepTo part most ms os np nq nt (cIf (bTst (bBin dLt (bVar 24) (bCon (.int 4)))) br1 (cIf (bTst (bBin dLt (bVar 24) (bCon (.int 6)))) br2 (cIf (bTst (bBin dEqA (bVar 24) (bCon (.int 6)))) br3 (cIf (bTst (bBin dLt (bVar 24) (bCon (.int 9)))) br4 br5)))) ρ1 μ5 := by
    have t1 : bTst (bBin dLt (bVar 24) (bCon (.int 4))) ρ1 μ5 = some (.ok (decide (so < 4)) μ5) := by simp [g24]
    have t2 : bTst (bBin dLt (bVar 24) (bCon (.int 6))) ρ1 μ5 = some (.ok (decide (so < 6)) μ5) := by simp [g24]
    have t3 : bTst (bBin dEqA (bVar 24) (bCon (.int 6))) ρ1 μ5 = some (.ok (decide (so = 6)) μ5) := by simp [g24]
    have t4 : bTst (bBin dLt (bVar 24) (bCon (.int 9))) ρ1 μ5 = some (.ok (decide (so < 9)) μ5) := by simp [g24]
    by_cases h1 : so < 4
    · obtain ⟨ρ', μ', a, b, c, d, q1, q2, q3⟩ := br1_s F L1 ⟨p0, p1⟩ ⟨m0, m1⟩ g11 g12
      refine ⟨ρ', μ', a, b, c, d, ?_, q2, q3⟩
      rw [cIf_s, t1]
      simp only [obS, h1, decide_true, if_true]
      exact q1
    · by_cases h2 : so < 6
      · obtain ⟨ρ', μ', a, b, c, d, q1, q2, q3⟩ := br2_s L1 (p := pa - 700) (by omega) g18
        refine ⟨ρ', μ', a, b, c, d, ?_, q2, q3⟩
        rw [cIf_s, t1]
        simp only [obS, h1, decide_false, Bool.false_eq_true, if_false]
        rw [cIf_s, t2]
        simp only [obS, h2, decide_true, if_true]
        exact q1
      · by_cases h3 : so = 6
        · obtain ⟨ρ', μ', a, b, c, d, q1, q2, q3⟩ := br3_s L1
          refine ⟨ρ', μ', a, b, c, d, ?_, q2, q3⟩
          rw [cIf_s, t1]
          simp only [obS, h1, decide_false, Bool.false_eq_true, if_false]
          rw [cIf_s, t2]
          simp only [obS, h2, decide_false, Bool.false_eq_true, if_false]
          rw [cIf_s, t3]
          simp only [obS, h3, decide_true, if_true]
          exact q1
        · by_cases h4 : so < 9
          · obtain ⟨ρ', μ', a, b, c, d, q1, q2, q3⟩ := br4_s L1 g25
            refine ⟨ρ', μ', a, b, c, d, ?_, q2, q3⟩
            rw [cIf_s, t1]
            simp only [obS, h1, decide_false, Bool.false_eq_true, if_false]
            rw [cIf_s, t2]
            simp only [obS, h2, decide_false, Bool.false_eq_true, if_false]
            rw [cIf_s, t3]
            simp only [obS, h3, decide_false, Bool.false_eq_true, if_false]
            rw [cIf_s, t4]
            simp only [obS, h4, decide_true, if_true]
            exact q1
          · obtain ⟨ρ', μ', a, b, c, d, q1, q2, q3⟩ := br5_s F L1
            refine ⟨ρ', μ', a, b, c, d, ?_, q2, q3⟩
            rw [cIf_s, t1]
            simp only [obS, h1, decide_false, Bool.false_eq_true, if_false]
            rw [cIf_s, t2]
            simp only [obS, h2, decide_false, Bool.false_eq_true, if_false]
            rw [cIf_s, t3]
            simp only [obS, h3, decide_false, Bool.false_eq_true, if_false]
            rw [cIf_s, t4]
            simp only [obS, h4, decide_false, Bool.false_eq_true, if_false]
            exact q1
  obtain ⟨ρ2, μ6, o', h', l', y', q1, q2, q3⟩ := key
  have s3 : s9c ρ2 μ6 = some (.nx ρ2 μ6) := by
    unfold s9c
    simp [q3, trD]
  have s4 : s9d ρ2 μ6 = some (.nx ρ2 μ6) := by
    have f := fldQ (ρ := ρ2) q2.mq q2.pot
    have tx := tix q2.mt
    have x1 : bTup (bCons (bFld C_own "own" (bVar 14)) (bCons (bFld C_house "house" (bVar 14)) (bCons (bFld C_laid "laid" (bVar 14)) (bCons (bFld C_years "years" (bVar 14)) (bNil))))) ρ2 μ6 = some (.ok (.tup [.int o', .int h', .int l', .int y']) μ6) := by
      rw [bTup_s, bCons_s, f.2.1]
      simp only [ob]
      rw [bCons_s, f.2.2.1]
      simp only [ob]
      rw [bCons_s, f.2.2.2.1]
      simp only [ob]
      rw [bCons_s, f.2.2.2.2]
      simp
    have x2 : bTup (bCons (bBin dIxA (bVar 15) (bCon (.str "own"))) (bCons (bBin dIxA (bVar 15) (bCon (.str "house"))) (bCons (bBin dIxA (bVar 15) (bCon (.str "laid"))) (bCons (bBin dIxA (bVar 15) (bCon (.str "years"))) (bNil))))) ρ2 μ6 = some (.ok (.tup [.int o', .int h', .int l', .int y']) μ6) := by
      simp [q2.told, tx]
    have := tup_ne (μ := μ6) [o', h', l', y']
    simp only [List.map_cons, List.map_nil] at this
    unfold s9d
    rw [cIf_s, bTst_s, bBin_s, x1]
    simp only [ob]
    rw [x2]
    simp [this]
  exact ⟨ρ2, μ6, o', h', l', y', seq_nx s1 (seq_nx q1 (seq_nx s3 s4)), q2⟩
theorem st9_s (F : Fa part most ms os) (H : Sq part most ms os np nq nt 0 0 0 0 ρ μ) : ∃ ρ' μ', st9 ρ μ = some (.nx ρ' μ') ∧ Lv part most ms os np ρ' μ' := by
  obtain ⟨n, μ1, n0, n1, e1, g1, _⟩ := rollG H.lv.m0 (many := 16) (by omega) (by omega)
  have c1 := callR H.lv.dice e1
  have hr : bRng1 (bCons (bCallM hRoll (bCons (bVar 1) (bCons (bCon (.int 16)) (bNil)))) (bNil)) ρ μ = some (.ok (rngD 0 n.toNat) μ1) := rng1_z (μ := μ1) (z := n) (by omega) (by rw [bCons_s, c1]; simp)
  obtain ⟨ρ', μ', e, o, h, l, y, q⟩ := rng_run (t := tgName 7) (b := cSeq s9a (cSeq (cIf (bTst (bBin dLt (bVar 24) (bCon (.int 4)))) br1 (cIf (bTst (bBin dLt (bVar 24) (bCon (.int 6)))) br2 (cIf (bTst (bBin dEqA (bVar 24) (bCon (.int 6)))) br3 (cIf (bTst (bBin dLt (bVar 24) (bCon (.int 9)))) br4 br5)))) (cSeq s9c s9d))) (I := fun _ ρ μ => ∃ o h l y, Sq part most ms os np nq nt o h l y ρ μ) 0 n.toNat (fun i ρ μ hi ⟨o, h, l, y, q⟩ => by
    obtain ⟨ρ2, μ2, o', h', l', y', e, q2⟩ := body9_s F (q.set 7 (some (.int (0 + (i : Int)))) (by decide))
    exact ⟨_, μ, ρ2, μ2, rfl, e, o', h', l', y', q2⟩) (ρ := ρ) (μ := μ1) ⟨0, 0, 0, 0, H.go g1⟩
  refine ⟨ρ', μ', ?_, q.lv⟩
  rw [st9_eq, cFor_s, hr]
  exact e
theorem grp10 (H : Lv part most ms os np ρ μ) : ∃ ρ' μ', cSeq st10 (cSeq st11 (cSeq st12 st13)) ρ μ = some (.nx ρ' μ') := by
  have D0 := H.m0
  obtain ⟨x, μ1, x0, x1, e1, g1, _⟩ := rollG D0 (many := 500) (by omega) (by omega)
  have D1 := g1.1 D0
  obtain ⟨e, μ2, e0, e1', e2, g2, _⟩ := rollG D1 (many := 90) (by omega) (by omega)
  have D2 := g2.1 D1
  obtain ⟨p, μ3, p0, p1, e3, g3, _⟩ := rollG D2 (many := 900) (by omega) (by omega)
  have D3 := g3.1 D2
  obtain ⟨n, μ4, n0, n1, e4, g4, _⟩ := rollG D3 (many := 12) (by omega) (by omega)
  have D4 := g4.1 D3
  obtain ⟨go, μ5, go0, go1, e5, g5, _⟩ := rollG D4 (many := 3000) (by omega) (by omega)
  have c1 := callR H.dice e1
  have c2 := callR H.dice e2
  have c3 := callR H.dice e3
  have c4 := callR H.dice e4
  have c5 := callR H.dice e5
  have s10 : st10 ρ μ = some (.nx (((((ρ.set 16 (some (.int x))).set 17 (some (.int e))).set 18 (some (.int p))).set 19 (some (.int (1 + n)))).set 20 (some (.int go))) μ5) := by
    unfold st10
    simp [-bCallM_s, c1, c2, c3, c4, c5]
  have l0 := H.len
  generalize hρ1 : (((((ρ.set 16 (some (.int x))).set 17 (some (.int e))).set 18 (some (.int p))).set 19 (some (.int (1 + n)))).set 20 (some (.int go)) : En) = ρ1 at s10
  have l1 : ρ1.length = 32 := by rw [← hρ1]; simp [l0]
  have a16 : ρ1[16]? = some (some (.int x)) := by rw [← hρ1]; simp [List.getElem?_set, l0]
  have a17 : ρ1[17]? = some (some (.int e)) := by rw [← hρ1]; simp [List.getElem?_set, l0]
  have a18 : ρ1[18]? = some (some (.int p)) := by rw [← hρ1]; simp [List.getElem?_set, l0]
  have a19 : ρ1[19]? = some (some (.int (1 + n))) := by rw [← hρ1]; simp [List.getElem?_set, l0]
  have a20 : ρ1[20]? = some (some (.int go)) := by rw [← hρ1]; simp [List.getElem?_set, l0]
  generalize hN : 1 + n = N at *
  obtain ⟨w, ew, w0, w1, w2⟩ := least_s (x := x) (p := p) (n := N) (goal := go) ⟨x0, p0, by omega, by omega, by omega⟩ ⟨go0, by omega⟩
  obtain ⟨v, ev, v0, v1, v2, v3⟩ := paid_s (m := go) (p := p) (n := N) ⟨go0, by omega, p0, by omega, by omega, by omega⟩
  have s11 : st11 ρ1 μ5 = some (.nx ((ρ1.set 21 (some (.int w))).set 22 (some (.int v))) μ5) := by
    unfold st11
    simp [a16, a18, a19, a20, purs, pur, ew, ev]
  generalize hρ2 : ((ρ1.set 21 (some (.int w))).set 22 (some (.int v)) : En) = ρ2 at s11
  have b16 : ρ2[16]? = some (some (.int x)) := by rw [← hρ2]; simp [List.getElem?_set, a16]
  have b17 : ρ2[17]? = some (some (.int e)) := by rw [← hρ2]; simp [List.getElem?_set, a17]
  have b18 : ρ2[18]? = some (some (.int p)) := by rw [← hρ2]; simp [List.getElem?_set, a18]
  have b19 : ρ2[19]? = some (some (.int N)) := by rw [← hρ2]; simp [List.getElem?_set, a19]
  have b20 : ρ2[20]? = some (some (.int go)) := by rw [← hρ2]; simp [List.getElem?_set, a20]
  have b21 : ρ2[21]? = some (some (.int w)) := by rw [← hρ2]; simp [List.getElem?_set, l1]
  have b22 : ρ2[22]? = some (some (.int v)) := by rw [← hρ2]; simp [List.getElem?_set, l1]
  -- 12
  have k1 := grown_s (x := x) (e := e) (p := p) (n := N) ⟨x0, e0, p0, by omega, by omega, by omega⟩
  have k2 := lgrown_s (x := x) (e := e) (p := p) (n := N) ⟨p0, by omega, by omega, by omega⟩
  have k3 := lgrown_s (x := x) (e := w) (p := p) (n := N) ⟨p0, by omega, by omega, by omega⟩
  have k4 := lgrown_s (x := x) (e := w - 1) (p := p) (n := N) ⟨p0, by omega, by omega, by omega⟩
  have hw1 : ¬ grN p w N.toNat x < go := by omega
  have s12 : st12 ρ2 μ5 = some (.nx ρ2 μ5) := by
    unfold st12
    by_cases hw : 0 < w
    · have hw2 : ¬ go ≤ grN p (w - 1) N.toNat x := by rcases w2 with z | z <;> omega
      simp [b16, b17, b18, b19, b20, b21, purs, pur, k1, k2, k3, k4, hw1, hw, hw2]
    · simp [b16, b17, b18, b19, b20, b21, purs, pur, k1, k2, k3, hw1, hw]
  -- 13
  have q1 := left_s (m := go) (e := v) (p := p) (n := N) ⟨p0, by omega, by omega, by omega⟩
  have q2 := left_s (m := go) (e := v + 1) (p := p) (n := N) ⟨p0, by omega, by omega, by omega⟩
  have q3 := years_s (m := go) (e := 1 + e) (p := p) ⟨go0, by omega, p0, by omega⟩
  have q4 := left_s (m := go) (e := 1 + e) (p := p) (n := 80) ⟨p0, by omega, by omega, by omega⟩
  have q5 := does_s (m := go) (e := e) (p := p) (n := N) ⟨p0, by omega, by omega, by omega⟩
  have q6 := left_s (m := go) (e := e) (p := p) (n := N) ⟨p0, by omega, by omega, by omega⟩
  have h80 : (80 : Int).toNat = 80 := rfl
  rw [h80] at q4
  have r1 : ¬ ((cnt p v N.toNat go : Nat) : Int) < N := by omega
  have r2 : ¬ N ≤ ((cnt p (v + 1) N.toNat go : Nat) : Int) := by
    have := cnt_le p (v + 1) N.toNat go
    omega
  have r3 : decide (cnt p e N.toNat go = N.toNat) = decide (N ≤ ((cnt p e N.toNat go : Nat) : Int)) := by
    have := cnt_le p e N.toNat go
    by_cases hz : cnt p e N.toNat go = N.toNat
    · rw [decide_eq_true hz, decide_eq_true (by omega)]
    · rw [decide_eq_false hz, decide_eq_false (by omega)]
  rw [r3] at q5
  have s13 : st13 ρ2 μ5 = some (.nx ρ2 μ5) := by
    unfold st13
    simp [b17, b18, b19, b20, b22, purs, pur, q1, q2, q3, q4, q5, q6, r1, r2]
  exact ⟨ρ2, μ5, seq_nx s10 (seq_nx s11 (seq_nx s12 s13))⟩
end
end K10

set_option linter.all false
set_option maxRecDepth 100000
set_option maxHeartbeats 4000000
namespace K10
open PySem Mi L2
def toldP : List D := [.int 400, .int 350, .int 500, .int 500, .tup [.int 400, .int 350], .int 37, .int 420, .non, .non, .int 603, .non, .tup [.int 583, .int 184], .tup [.int 0, .int 0, .int 2], .int 272, .int 251, .int 250, .int 268, .int 3, .int 80, .bl true, .int 100, .int 0, .int 0]
def roQ : En := [some (.ref 0), some (.ref 1), some (.lst toldP), some (.lst ((List.range 35).map .lam)), none, none]
def C2 : Cs := (cSeq (cSet 0 (bMake "Plan" M_Plan___init__ (bCons (bCon (.int 100)) (bCons (bTup (bCons (bTup (bCons (bCon (.int 30)) (bCons (bCon (.int 1000)) (bNil)))) (bCons (bTup (bCons (bCon (.int 20)) (bCons (bCon (.int 500)) (bNil)))) (bNil)))) (bCons (bTup (bCons (bTup (bCons (bCon (.int 0)) (bCons (bCon (.int 0)) (bNil)))) (bCons (bTup (bCons (bCon (.int 2)) (bCons (bCon (.int 500)) (bNil)))) (bCons (bTup (bCons (bCon (.int 4)) (bCons (bCon (.int 1000)) (bNil)))) (bNil))))) (bCons (bCon (.int 5000)) (bNil))))))) (cSeq (cSet 1 (bMake "Pot" M_Pot___init__ (bCons (bVar 0) (bNil)))) (cSeq (cSet 2 (bLst (bCons (bMeth T_own_part "own_part" (bVar 0) (bCons (bCon (.int 10000)) (bCons (bCon (.int 40)) (bCons (bCon (.int 0)) (bNil))))) (bCons (bMeth T_met_part "met_part" (bVar 0) (bCons (bCon (.int 10000)) (bCons (bCon (.int 400)) (bNil)))) (bCons (bMeth T_least_for_all "least_for_all" (bVar 0) (bCons (bCon (.int 10000)) (bNil))) (bCons (bMeth T_owned_share "owned_share" (bVar 0) (bCons (bCon (.int 3)) (bNil))) (bCons (bMeth T_pay_in "pay_in" (bVar 1) (bCons (bCon (.int 10000)) (bCons (bCon (.int 40)) (bNil)))) (bNil)))))))) (cSeq (cSet 2 (bBin dAdd (bVar 2) (bLst (bCons (bMeth T_grow_by "grow_by" (bVar 1) (bCons (bCon (.int 500)) (bNil))) (bCons (bMeth T_owned_now "owned_now" (bVar 1) bNil) (bCons (bMeth T_begin_year "begin_year" (bVar 1) bNil) (bCons (bMeth T_begin_year "begin_year" (bVar 1) bNil) (bCons (bMeth T_owned_now "owned_now" (bVar 1) bNil) (bCons (bMeth T_take_out "take_out" (bVar 1) (bCons (bCon (.int 20)) (bNil))) (bCons (bMeth T_leave_now "leave_now" (bVar 1) bNil) (bNil))))))))))) (cSeq (cSet 2 (bBin dAdd (bVar 2) (bLst (bCons (bTup (bCons (bFld C_own "own" (bVar 1)) (bCons (bFld C_house "house" (bVar 1)) (bCons (bFld C_years "years" (bVar 1)) (bNil))))) (bCons (bCallP M_grown_money (bCons (bCon (.int 100)) (bCons (bCon (.int 50)) (bCons (bCon (.int 500)) (bCons (bCon (.int 3)) (bNil)))))) (bCons (bCallP M_least_each (bCons (bCon (.int 0)) (bCons (bCon (.int 0)) (bCons (bCon (.int 4)) (bCons (bCon (.int 1001)) (bNil)))))) (bCons (bCallP M_paid_for_years (bCons (bCon (.int 1000)) (bCons (bCon (.int 0)) (bCons (bCon (.int 4)) (bNil))))) (bNil)))))))) (cSeq (cSet 2 (bBin dAdd (bVar 2) (bLst (bCons (bCallP M_paid_for_years (bCons (bCon (.int 1000)) (bCons (bCon (.int 500)) (bCons (bCon (.int 4)) (bNil))))) (bCons (bCallP M_years_it_lasts (bCons (bCon (.int 1000)) (bCons (bCon (.int 300)) (bCons (bCon (.int 0)) (bNil))))) (bCons (bCallP M_years_it_lasts (bCons (bCon (.int 1000)) (bCons (bCon (.int 10)) (bCons (bCon (.int 500)) (bNil))))) (bCons (bCallP M_does_last (bCons (bCon (.int 10)) (bCons (bCon (.int 5)) (bCons (bCon (.int 0)) (bCons (bCon (.int 2)) (bNil)))))) (bNil)))))))) (cSeq (cSet 2 (bBin dAdd (bVar 2) (bLst (bCons (bMeth T_own_part "own_part" (bVar 0) (bCons (bCon (.int 100000)) (bCons (bCon (.int 500)) (bCons (bCon (.int 4900)) (bNil))))) (bCons (bMeth T_least_for_all "least_for_all" (bMake "Plan" M_Plan___init__ (bCons (bCon (.int 0)) (bCons (bTup (bNil)) (bCons (bTup (bCons (bTup (bCons (bCon (.int 0)) (bCons (bCon (.int 1000)) (bNil)))) (bNil))) (bCons (bCon (.int 0)) (bNil)))))) (bCons (bCon (.int 50)) (bNil))) (bCons (bMeth T_grow_by "grow_by" (bVar 1) (bCons (bNeg (bCon (.int 10000))) (bNil))) (bNil))))))) (cSeq (cSet 3 (bLst (bCons (bCon (.lam 0)) (bCons (bCon (.lam 1)) (bCons (bCon (.lam 2)) (bNil)))))) (cSeq (cSet 3 (bBin dAdd (bVar 3) (bLst (bCons (bCon (.lam 3)) (bCons (bCon (.lam 4)) (bCons (bCon (.lam 5)) (bNil))))))) (cSeq (cSet 3 (bBin dAdd (bVar 3) (bLst (bCons (bCon (.lam 6)) (bCons (bCon (.lam 7)) (bCons (bCon (.lam 8)) (bNil))))))) (cSeq (cSet 3 (bBin dAdd (bVar 3) (bLst (bCons (bCon (.lam 9)) (bCons (bCon (.lam 10)) (bCons (bCon (.lam 11)) (bCons (bCon (.lam 12)) (bNil)))))))) (cSeq (cSet 3 (bBin dAdd (bVar 3) (bLst (bCons (bCon (.lam 13)) (bCons (bCon (.lam 14)) (bCons (bCon (.lam 15)) (bCons (bCon (.lam 16)) (bNil)))))))) (cSeq (cSet 3 (bBin dAdd (bVar 3) (bLst (bCons (bCon (.lam 17)) (bCons (bCon (.lam 18)) (bCons (bCon (.lam 19)) (bCons (bCon (.lam 20)) (bCons (bCon (.lam 21)) (bNil))))))))) (cSeq (cSet 3 (bBin dAdd (bVar 3) (bLst (bCons (bCon (.lam 22)) (bCons (bCon (.lam 23)) (bCons (bCon (.lam 24)) (bCons (bCon (.lam 25)) (bNil)))))))) (cSeq (cSet 3 (bBin dAdd (bVar 3) (bLst (bCons (bCon (.lam 26)) (bCons (bCon (.lam 27)) (bCons (bCon (.lam 28)) (bCons (bCon (.lam 29)) (bNil)))))))) (cSeq (cSet 3 (bBin dAdd (bVar 3) (bLst (bCons (bCon (.lam 30)) (bCons (bCon (.lam 31)) (bCons (bCon (.lam 32)) (bCons (bCon (.lam 33)) (bNil)))))))) (cSeq (cSet 3 (bBin dAdd (bVar 3) (bLst (bCons (bCon (.lam 34)) (bNil))))) (cIf (bOrT (bTst (bBin dNeA (bComp [4, 5] (bEnumA (bCons (bVar 3) (bNil))) (tgTup [tgName 4, tgName 5]) (tcB [4, 5] 5 told_ret told_en L__law_plain "PensionError") (bVar 4)) (bLst (bNil)))) (bTst (bBin dNeA (bCon k_MOST_YEARS) (bCon (.int 80))))) (cRet (bCon (.bl false))) (cNop)))))))))))))))))))
def C3 : Cs := (cRet (bBin dEqA (bVar 2) (bLst (bCons (bCon (.int 400)) (bCons (bCon (.int 350)) (bCons (bCon (.int 500)) (bCons (bCon (.int 500)) (bCons (bTup (bCons (bCon (.int 400)) (bCons (bCon (.int 350)) (bNil)))) (bCons (bCon (.int 37)) (bCons (bCon (.int 420)) (bCons (bCon .non) (bCons (bCon .non) (bCons (bCon (.int 603)) (bCons (bCon .non) (bCons (bTup (bCons (bCon (.int 583)) (bCons (bCon (.int 184)) (bNil)))) (bCons (bTup (bCons (bCon (.int 0)) (bCons (bCon (.int 0)) (bCons (bCon (.int 2)) (bNil))))) (bCons (bCon (.int 272)) (bCons (bCon (.int 251)) (bCons (bCon (.int 250)) (bCons (bCon (.int 268)) (bCons (bCon (.int 3)) (bCons (bCon (.int 80)) (bCons (bCon (.bl true)) (bCons (bCon (.int 100)) (bCons (bCon (.int 0)) (bCons (bCon (.int 0)) (bNil)))))))))))))))))))))))))))
theorem half2 : isNxE (C2 (List.replicate 6 none) []) roQ = true := by decide +kernel
theorem told_sf : sfD 60 (.lst toldP) = true := by decide +kernel
theorem plain_e : B__law_plain = cSeq C2 C3 := by
  unfold C2 C3
  simp only [seq_assoc]
  rfl
theorem plain_s : ∃ μ, M__law_plain [] [] = some (.ok (.bl true) μ) := by
  obtain ⟨μ2, h2⟩ := isNxE_eq half2
  have h3 : C3 roQ μ2 = some (.rt (.bl true) μ2) := by
    have e1 : bVar 2 roQ μ2 = some (.ok (.lst toldP) μ2) := rfl
    have e2 : (bLst (bCons (bCon (.int 400)) (bCons (bCon (.int 350)) (bCons (bCon (.int 500)) (bCons (bCon (.int 500)) (bCons (bTup (bCons (bCon (.int 400)) (bCons (bCon (.int 350)) (bNil)))) (bCons (bCon (.int 37)) (bCons (bCon (.int 420)) (bCons (bCon .non) (bCons (bCon .non) (bCons (bCon (.int 603)) (bCons (bCon .non) (bCons (bTup (bCons (bCon (.int 583)) (bCons (bCon (.int 184)) (bNil)))) (bCons (bTup (bCons (bCon (.int 0)) (bCons (bCon (.int 0)) (bCons (bCon (.int 2)) (bNil))))) (bCons (bCon (.int 272)) (bCons (bCon (.int 251)) (bCons (bCon (.int 250)) (bCons (bCon (.int 268)) (bCons (bCon (.int 3)) (bCons (bCon (.int 80)) (bCons (bCon (.bl true)) (bCons (bCon (.int 100)) (bCons (bCon (.int 0)) (bCons (bCon (.int 0)) (bNil))))))))))))))))))))))))) roQ μ2 = some (.ok (.lst toldP) μ2) := by
      unfold toldP
      simp
    unfold C3
    rw [cRet_s, bBin_s, e1]
    simp only [ob]
    rw [e2]
    simp only [ob, eqA_self told_sf, rt, obS]
  refine ⟨μ2, ?_⟩
  unfold M__law_plain
  rw [fnS_s, plain_e]
  have e0 : (([] : List D).map some ++ List.replicate (6 - ([] : List D).length) none : En) = List.replicate 6 none := rfl
  rw [e0, seq_nx h2 h3]
  simp [lamf]
end K10

set_option linter.all false
set_option maxRecDepth 100000
set_option maxHeartbeats 4000000
namespace K10
open PySem Mi L2 Mw
theorem body_s {ns : List Int} {a b c : Int} : ∃ ρ' μ', bodyC (some (.scr ns) :: some (.ref 0) :: List.replicate 30 none) [.lst [.int a, .int b, .int c]] = some (.nx ρ' μ') := by
  obtain ⟨part, most, ms, os, np, ρ, μ, F, L, k0⟩ := init_law (ns := ns) (a := a) (b := b) (c := c)
  obtain ⟨ρ1, μ1, L1, k1⟩ := grp4 F L
  obtain ⟨nq, nt, ρ2, μ2, s8, Q⟩ := st8_s L1
  obtain ⟨ρ3, μ3, s9, L3⟩ := st9_s F Q
  obtain ⟨ρ', μ', e⟩ := grp10 L3
  refine ⟨ρ', μ', ?_⟩
  unfold bodyC
  rw [k0, k1, seq_nx s8 rfl, seq_nx s9 rfl]
  exact e
theorem math (ns : List Int) (_ : ns.length ≤ 63) : ∃ μ, M_law [.scr ns] [] = some (.ok (.bl true) μ) := by
  obtain ⟨a, b, c, hr⟩ := hrounds_s ns
  obtain ⟨ρ', μ', hb⟩ := body_s (ns := ns) (a := a) (b := b) (c := c)
  obtain ⟨μ2, hp⟩ := plain_s
  refine ⟨μ', ?_⟩
  unfold M_law
  rw [B_law_eq, fnS_s]
  have e0 : ([D.scr ns].map some ++ List.replicate (32 - [D.scr ns].length) none : En) = some (.scr ns) :: none :: List.replicate 30 none := rfl
  rw [e0]
  have e2 : cFor (bItemsA (bCallM hRounds (bCons (bVar 0) (bCons (bCon (.int 1)) (bNil))))) (tgName 1) bodyC (some (.scr ns) :: none :: List.replicate 30 none) [] = some (.nx ρ' μ') := by
    have e3 : bItemsA (bCallM hRounds (bCons (bVar 0) (bCons (bCon (.int 1)) (bNil)))) (some (.scr ns) :: none :: List.replicate 30 none) [] = some (.ok [.ref 0] [.lst [.int a, .int b, .int c]]) := by
      simp [hr, lamfs, lamf]
    rw [cFor_s, e3]
    show (match bodyC (some (.scr ns) :: some (.ref 0) :: List.replicate 30 none) [.lst [.int a, .int b, .int c]] with
      | some (.nx ρ2 μ2) => fl (tgName 1) bodyC [] ρ2 μ2
      | some (.ct ρ2 μ2) => fl (tgName 1) bodyC [] ρ2 μ2
      | some (.bk ρ2 μ2) => some (.nx ρ2 μ2)
      | r => r) = _
    rw [hb]
    rfl
  have e4 : cRet (bCall0 M__law_plain) ρ' μ' = some (.rt (.bl true) μ') := by
    simp [hp, pur]
  rw [seq_nx e2 e4]
  simp [lamf]
end K10

set_option Elab.async false
set_option linter.all false
set_option maxRecDepth 100000
set_option maxHeartbeats 4000000
namespace K10.Hd
open PySem PySem.Spec PyProof.Rows L2 Mi LamX
def fa : List He.Fa := [.free "abs", .free "any", .free "enumerate", .free "int", .free "len", .free "max", .free "min", .free "range", .free "sum", .free "tuple", .free "zip", .glo "grown_money", .glo "least_each", .glo "paid_for_years", .glo "does_last", .glo "years_it_lasts", .glo "_law_dice", .glo "_law_roll", .glo "_law_rounds", .glo "_law_told", .glo "_law_met", .glo "_law_grown", .glo "_law_left", .glo "_law_plain", .glo "law", .int "MOST_YEARS" 80, .glo "PensionError", .exc "PensionError", .glo "Plan", .cls "Plan", .glo "Pot", .cls "Pot", .noat "Pot" "house", .noat "Pot" "laid", .noat "Plan" "matches", .noat "Plan" "most", .noat "Pot" "own", .noat "Plan" "owned", .noat "Plan" "part", .noat "Pot" "plan", .noat "Pot" "years", .mkr "Plan", .meth "Plan" "own_part", .meth "Plan" "met_part", .meth "Plan" "least_for_all", .meth "Plan" "owned_share", .mkr "Pot", .meth "Pot" "pay_in", .meth "Pot" "grow_by", .meth "Pot" "begin_year", .meth "Pot" "owned_now", .meth "Pot" "leave_now", .meth "Pot" "take_out", .exm "PensionError" "PensionError" true]
def fn : List He.DefD := [dDefM "Plan" "__init__" "Plan.__init__" s_Plan___init__, dDefM "Plan" "own_part" "Plan.own_part" s_Plan_own_part, dDefM "Plan" "met_part" "Plan.met_part" s_Plan_met_part, dDefM "Plan" "least_for_all" "Plan.least_for_all" s_Plan_least_for_all, dDefM "Plan" "owned_share" "Plan.owned_share" s_Plan_owned_share, dDefM "Pot" "__init__" "Pot.__init__" s_Pot___init__, dDefM "Pot" "pay_in" "Pot.pay_in" s_Pot_pay_in, dDefM "Pot" "grow_by" "Pot.grow_by" s_Pot_grow_by, dDefM "Pot" "begin_year" "Pot.begin_year" s_Pot_begin_year, dDefM "Pot" "owned_now" "Pot.owned_now" s_Pot_owned_now, dDefM "Pot" "leave_now" "Pot.leave_now" s_Pot_leave_now, dDefM "Pot" "take_out" "Pot.take_out" s_Pot_take_out, dDef "grown_money" s_grown_money, dDef "least_each" s_least_each, dDef "paid_for_years" s_paid_for_years, dDef "does_last" s_does_last, dDef "years_it_lasts" s_years_it_lasts, dDef "_law_dice" s__law_dice, dDef "_law_roll" s__law_roll, dDef "_law_rounds" s__law_rounds, dDef "_law_told" s__law_told, dDef "_law_met" s__law_met, dDef "_law_grown" s__law_grown, dDef "_law_left" s__law_left, dDef "_law_plain" s__law_plain, dDef "law" s_law]
def tq : TQ := [(("Plan", some "__init__"), (("Plan.__init__.<locals>." : Str) ++ "<genexpr>")), (("_law_plain", none), (("_law_plain.<locals>." : Str) ++ "<lambda>")), (("law", none), (("law.<locals>." : Str) ++ "<lambda>"))]
def ex (K : PySem.W.Frag) : Bool := tabsNd tq K
theorem facts_of {P : Program} {w : World} {K : PySem.W.Frag} {mg : Str → Option Value} {h base : Heap} (c : He.SaysX fa fn [] (tq.map (·.1)) ex w h K) (KB : K.In base) (GB : base.Ns mainGlobals mg) (TB : ∀ p ∈ tq, TabB base mg (He.cT K p.1).1 (He.cT K p.1).2) : Facts (gOf P w K mg base (tabT tq K)) := by
  have e0 := c.more
  unfold ex at e0
  have nd := of_decide_eq_true e0
  exact ⟨He.free_ok KB GB (c.t.d.fact 0 (f := .free "abs") rfl),
    He.free_ok KB GB (c.t.d.fact 1 (f := .free "any") rfl),
    He.free_ok KB GB (c.t.d.fact 2 (f := .free "enumerate") rfl),
    He.free_ok KB GB (c.t.d.fact 3 (f := .free "int") rfl),
    He.free_ok KB GB (c.t.d.fact 4 (f := .free "len") rfl),
    He.free_ok KB GB (c.t.d.fact 5 (f := .free "max") rfl),
    He.free_ok KB GB (c.t.d.fact 6 (f := .free "min") rfl),
    He.free_ok KB GB (c.t.d.fact 7 (f := .free "range") rfl),
    He.free_ok KB GB (c.t.d.fact 8 (f := .free "sum") rfl),
    He.free_ok KB GB (c.t.d.fact 9 (f := .free "tuple") rfl),
    He.free_ok KB GB (c.t.d.fact 10 (f := .free "zip") rfl),
    gc_int KB GB rfl rfl (c.t.d.fact 25 (f := .int "MOST_YEARS" 80) rfl),
    ec_of KB GB rfl rfl rfl (c.t.d.fact 26 (f := .glo "PensionError") rfl) (c.t.d.fact 27 (f := .exc "PensionError") rfl),
    He.cls_ok (c.t.d.fact 29 (f := .cls "Plan") rfl),
    He.cls_ok (c.t.d.fact 31 (f := .cls "Pot") rfl),
    He.noat_ok (c.t.d.fact 32 (f := .noat "Pot" "house") rfl),
    He.noat_ok (c.t.d.fact 33 (f := .noat "Pot" "laid") rfl),
    He.noat_ok (c.t.d.fact 34 (f := .noat "Plan" "matches") rfl),
    He.noat_ok (c.t.d.fact 35 (f := .noat "Plan" "most") rfl),
    He.noat_ok (c.t.d.fact 36 (f := .noat "Pot" "own") rfl),
    He.noat_ok (c.t.d.fact 37 (f := .noat "Plan" "owned") rfl),
    He.noat_ok (c.t.d.fact 38 (f := .noat "Plan" "part") rfl),
    He.noat_ok (c.t.d.fact 39 (f := .noat "Pot" "plan") rfl),
    He.noat_ok (c.t.d.fact 40 (f := .noat "Pot" "years") rfl),
    (by
    obtain ⟨fd, F⟩ := c.t.d.def_ 0 (d := dDefM "Plan" "__init__" "Plan.__init__" s_Plan___init__) rfl
    obtain ⟨cc, FC⟩ := funC_of (st := s_Plan___init__) (q := "Plan.__init__") F
    have ec := FC.codeP (p := ("Plan", some "__init__")) rfl
    subst ec
    have hm : (tq : List (He.Defn × Str))[0]? = some ((("Plan", some "__init__") : He.Defn), (("Plan.__init__.<locals>." : Str) ++ "<genexpr>")) := rfl
    have hm := List.mem_of_getElem? hm
    exact ⟨_, _, fd, FC, ⟨He.glo_ok KB GB (c.t.d.fact 28 (f := .glo "Plan") rfl), He.mkr_ok (c.t.d.fact 41 (f := .mkr "Plan") rfl)⟩, _, TB _ hm, List.mem_map.mpr ⟨_, hm, rfl⟩, tab_uniq nd hm⟩),
    (by
    obtain ⟨fd, F⟩ := c.t.d.def_ 1 (d := dDefM "Plan" "own_part" "Plan.own_part" s_Plan_own_part) rfl
    obtain ⟨cc, FC⟩ := funC_of (st := s_Plan_own_part) (q := "Plan.own_part") F
    exact ⟨_, cc, fd, FC, He.meth_ok (c.t.d.fact 42 (f := .meth "Plan" "own_part") rfl)⟩),
    (by
    obtain ⟨fd, F⟩ := c.t.d.def_ 2 (d := dDefM "Plan" "met_part" "Plan.met_part" s_Plan_met_part) rfl
    obtain ⟨cc, FC⟩ := funC_of (st := s_Plan_met_part) (q := "Plan.met_part") F
    exact ⟨_, cc, fd, FC, He.meth_ok (c.t.d.fact 43 (f := .meth "Plan" "met_part") rfl)⟩),
    (by
    obtain ⟨fd, F⟩ := c.t.d.def_ 3 (d := dDefM "Plan" "least_for_all" "Plan.least_for_all" s_Plan_least_for_all) rfl
    obtain ⟨cc, FC⟩ := funC_of (st := s_Plan_least_for_all) (q := "Plan.least_for_all") F
    exact ⟨_, cc, fd, FC, He.meth_ok (c.t.d.fact 44 (f := .meth "Plan" "least_for_all") rfl)⟩),
    (by
    obtain ⟨fd, F⟩ := c.t.d.def_ 4 (d := dDefM "Plan" "owned_share" "Plan.owned_share" s_Plan_owned_share) rfl
    obtain ⟨cc, FC⟩ := funC_of (st := s_Plan_owned_share) (q := "Plan.owned_share") F
    exact ⟨_, cc, fd, FC, He.meth_ok (c.t.d.fact 45 (f := .meth "Plan" "owned_share") rfl)⟩),
    (by
    obtain ⟨fd, F⟩ := c.t.d.def_ 5 (d := dDefM "Pot" "__init__" "Pot.__init__" s_Pot___init__) rfl
    obtain ⟨cc, FC⟩ := funC_of (st := s_Pot___init__) (q := "Pot.__init__") F
    exact ⟨_, cc, fd, FC, ⟨He.glo_ok KB GB (c.t.d.fact 30 (f := .glo "Pot") rfl), He.mkr_ok (c.t.d.fact 46 (f := .mkr "Pot") rfl)⟩⟩),
    (by
    obtain ⟨fd, F⟩ := c.t.d.def_ 6 (d := dDefM "Pot" "pay_in" "Pot.pay_in" s_Pot_pay_in) rfl
    obtain ⟨cc, FC⟩ := funC_of (st := s_Pot_pay_in) (q := "Pot.pay_in") F
    exact ⟨_, cc, fd, FC, He.meth_ok (c.t.d.fact 47 (f := .meth "Pot" "pay_in") rfl)⟩),
    (by
    obtain ⟨fd, F⟩ := c.t.d.def_ 7 (d := dDefM "Pot" "grow_by" "Pot.grow_by" s_Pot_grow_by) rfl
    obtain ⟨cc, FC⟩ := funC_of (st := s_Pot_grow_by) (q := "Pot.grow_by") F
    exact ⟨_, cc, fd, FC, He.meth_ok (c.t.d.fact 48 (f := .meth "Pot" "grow_by") rfl)⟩),
    (by
    obtain ⟨fd, F⟩ := c.t.d.def_ 8 (d := dDefM "Pot" "begin_year" "Pot.begin_year" s_Pot_begin_year) rfl
    obtain ⟨cc, FC⟩ := funC_of (st := s_Pot_begin_year) (q := "Pot.begin_year") F
    exact ⟨_, cc, fd, FC, He.meth_ok (c.t.d.fact 49 (f := .meth "Pot" "begin_year") rfl)⟩),
    (by
    obtain ⟨fd, F⟩ := c.t.d.def_ 9 (d := dDefM "Pot" "owned_now" "Pot.owned_now" s_Pot_owned_now) rfl
    obtain ⟨cc, FC⟩ := funC_of (st := s_Pot_owned_now) (q := "Pot.owned_now") F
    exact ⟨_, cc, fd, FC, He.meth_ok (c.t.d.fact 50 (f := .meth "Pot" "owned_now") rfl)⟩),
    (by
    obtain ⟨fd, F⟩ := c.t.d.def_ 10 (d := dDefM "Pot" "leave_now" "Pot.leave_now" s_Pot_leave_now) rfl
    obtain ⟨cc, FC⟩ := funC_of (st := s_Pot_leave_now) (q := "Pot.leave_now") F
    exact ⟨_, cc, fd, FC, He.meth_ok (c.t.d.fact 51 (f := .meth "Pot" "leave_now") rfl)⟩),
    (by
    obtain ⟨fd, F⟩ := c.t.d.def_ 11 (d := dDefM "Pot" "take_out" "Pot.take_out" s_Pot_take_out) rfl
    obtain ⟨cc, FC⟩ := funC_of (st := s_Pot_take_out) (q := "Pot.take_out") F
    exact ⟨_, cc, fd, FC, He.meth_ok (c.t.d.fact 52 (f := .meth "Pot" "take_out") rfl)⟩),
    (by
    obtain ⟨fd, F⟩ := c.t.d.def_ 12 (d := dDef "grown_money" s_grown_money) rfl
    obtain ⟨cc, FC⟩ := funC_of (st := s_grown_money) (q := "grown_money") F
    exact ⟨_, cc, fd, FC, He.glo_ok KB GB (c.t.d.fact 11 (f := .glo "grown_money") rfl)⟩),
    (by
    obtain ⟨fd, F⟩ := c.t.d.def_ 13 (d := dDef "least_each" s_least_each) rfl
    obtain ⟨cc, FC⟩ := funC_of (st := s_least_each) (q := "least_each") F
    exact ⟨_, cc, fd, FC, He.glo_ok KB GB (c.t.d.fact 12 (f := .glo "least_each") rfl)⟩),
    (by
    obtain ⟨fd, F⟩ := c.t.d.def_ 15 (d := dDef "does_last" s_does_last) rfl
    obtain ⟨cc, FC⟩ := funC_of (st := s_does_last) (q := "does_last") F
    exact ⟨_, cc, fd, FC, He.glo_ok KB GB (c.t.d.fact 14 (f := .glo "does_last") rfl)⟩),
    (by
    obtain ⟨fd, F⟩ := c.t.d.def_ 14 (d := dDef "paid_for_years" s_paid_for_years) rfl
    obtain ⟨cc, FC⟩ := funC_of (st := s_paid_for_years) (q := "paid_for_years") F
    exact ⟨_, cc, fd, FC, He.glo_ok KB GB (c.t.d.fact 13 (f := .glo "paid_for_years") rfl)⟩),
    (by
    obtain ⟨fd, F⟩ := c.t.d.def_ 16 (d := dDef "years_it_lasts" s_years_it_lasts) rfl
    obtain ⟨cc, FC⟩ := funC_of (st := s_years_it_lasts) (q := "years_it_lasts") F
    exact ⟨_, cc, fd, FC, He.glo_ok KB GB (c.t.d.fact 15 (f := .glo "years_it_lasts") rfl)⟩),
    (by
    obtain ⟨fd, F⟩ := c.t.d.def_ 18 (d := dDef "_law_roll" s__law_roll) rfl
    obtain ⟨cc, FC⟩ := funC_of (st := s__law_roll) (q := "_law_roll") F
    exact ⟨_, cc, fd, FC, He.glo_ok KB GB (c.t.d.fact 17 (f := .glo "_law_roll") rfl)⟩),
    (by
    obtain ⟨fd, F⟩ := c.t.d.def_ 17 (d := dDef "_law_dice" s__law_dice) rfl
    obtain ⟨cc, FC⟩ := funC_of (st := s__law_dice) (q := "_law_dice") F
    exact ⟨_, cc, fd, FC, He.glo_ok KB GB (c.t.d.fact 16 (f := .glo "_law_dice") rfl)⟩),
    (by
    obtain ⟨fd, F⟩ := c.t.d.def_ 19 (d := dDef "_law_rounds" s__law_rounds) rfl
    obtain ⟨cc, FC⟩ := funC_of (st := s__law_rounds) (q := "_law_rounds") F
    exact ⟨_, cc, fd, FC, He.glo_ok KB GB (c.t.d.fact 18 (f := .glo "_law_rounds") rfl)⟩),
    (by
    obtain ⟨fd, F⟩ := c.t.d.def_ 21 (d := dDef "_law_met" s__law_met) rfl
    obtain ⟨cc, FC⟩ := funC_of (st := s__law_met) (q := "_law_met") F
    exact ⟨_, cc, fd, FC, He.glo_ok KB GB (c.t.d.fact 20 (f := .glo "_law_met") rfl)⟩),
    (by
    obtain ⟨fd, F⟩ := c.t.d.def_ 22 (d := dDef "_law_grown" s__law_grown) rfl
    obtain ⟨cc, FC⟩ := funC_of (st := s__law_grown) (q := "_law_grown") F
    exact ⟨_, cc, fd, FC, He.glo_ok KB GB (c.t.d.fact 21 (f := .glo "_law_grown") rfl)⟩),
    (by
    obtain ⟨fd, F⟩ := c.t.d.def_ 23 (d := dDef "_law_left" s__law_left) rfl
    obtain ⟨cc, FC⟩ := funC_of (st := s__law_left) (q := "_law_left") F
    exact ⟨_, cc, fd, FC, He.glo_ok KB GB (c.t.d.fact 22 (f := .glo "_law_left") rfl)⟩),
    (by
    obtain ⟨fd, F⟩ := c.t.d.def_ 24 (d := dDef "_law_plain" s__law_plain) rfl
    obtain ⟨cc, FC⟩ := funC_of (st := s__law_plain) (q := "_law_plain") F
    have ec := FC.codeP (p := ("_law_plain", none)) rfl
    subst ec
    have hm : (tq : List (He.Defn × Str))[1]? = some ((("_law_plain", none) : He.Defn), (("_law_plain.<locals>." : Str) ++ "<lambda>")) := rfl
    have hm := List.mem_of_getElem? hm
    exact ⟨_, _, fd, FC, He.glo_ok KB GB (c.t.d.fact 23 (f := .glo "_law_plain") rfl), _, TB _ hm, List.mem_map.mpr ⟨_, hm, rfl⟩, tab_uniq nd hm⟩),
    (by
    obtain ⟨fd, F⟩ := c.t.d.def_ 25 (d := dDef "law" s_law) rfl
    obtain ⟨cc, FC⟩ := funC_of (st := s_law) (q := "law") F
    have ec := FC.codeP (p := ("law", none)) rfl
    subst ec
    have hm : (tq : List (He.Defn × Str))[2]? = some ((("law", none) : He.Defn), (("law.<locals>." : Str) ++ "<lambda>")) := rfl
    have hm := List.mem_of_getElem? hm
    exact ⟨_, _, fd, FC, He.glo_ok KB GB (c.t.d.fact 24 (f := .glo "law") rfl), _, TB _ hm, List.mem_map.mpr ⟨_, hm, rfl⟩, tab_uniq nd hm⟩),
    (by
    obtain ⟨fd, F⟩ := c.t.d.def_ 20 (d := dDef "_law_told" s__law_told) rfl
    obtain ⟨cc, FC⟩ := funC_of (st := s__law_told) (q := "_law_told") F
    exact ⟨_, cc, fd, ⟨FC, He.glo_ok KB GB (c.t.d.fact 19 (f := .glo "_law_told") rfl), FC.binds fun _ _ _ _ _ _ us hl => match us, hl with | [_], _ => rfl, ⟨rfl, rfl, rfl, by decide +kernel, rfl, by decide +kernel, by decide +kernel⟩, rfl, Or.inl rfl, rfl, rfl, by decide, by decide, by decide, He.glo_ok KB GB (c.t.d.fact 26 (f := .glo "PensionError") rfl), He.exm_ok (c.t.d.fact 53 (f := .exm "PensionError" "PensionError" true) rfl)⟩⟩)⟩
abbrev R : PySem.W.OpenRow := PySem.W.OpenLaw.row PySem.Challenge.rw_paystack_k10_money_laid_by
abbrev hk : PySem.W.Hook := He.hookX 5 fa fn [] (tq.map (·.1)) ex
def obh (s : PySem.W.SharedT) : He.AlX := He.obsX 5 fa fn [] (tq.map (·.1)) ex (HandSHeadRun.getT s)
theorem obh_eq (s : PySem.W.SharedT) : obh s = hk.obs s.abs := He.obsX_eq (HandSHeadRun.getT_eq s)
def loose0 : List PySem.Str := ["PayFault", "PensionError", "MOST_YEARS", "Plan", "Pot", "grown_money", "least_each", "paid_for_years", "does_last", "years_it_lasts", "_law_dice", "_law_roll", "_law_rounds", "_law_told", "_law_met", "_law_grown", "_law_left", "_law_plain"]
def loose : List PySem.Str := loose0
theorem run (w : World) : HandSHeadRun.RunEq R (PySem.W.view R.prog [21]) hk obh 3000 loose w := by
  intro os
  kernel_rfl
end K10.Hd
open PySem PySem.W PySem.Calls PyProof.Rows
theorem PySem.Challenge.cw_paystack_k10_money_laid_by_holds_of (math : ∀ ns : List Int, ns.length ≤ 63 → ∃ μ, K10.M_law [.scr ns] [] = some (.ok (.bl true) μ)) : PySem.Challenge.rw_paystack_k10_money_laid_by.Holds := by
  w_on; o_law
  refine HandSHeadRun.head_any (r := OpenLaw.row PySem.Challenge.rw_paystack_k10_money_laid_by) (q := view (OpenLaw.row PySem.Challenge.rw_paystack_k10_money_laid_by).prog [21]) (H := K10.Hd.hk) (ob := K10.Hd.obh) (M := 3000) (loose := K10.Hd.loose) (d := HandSHeadRun.topDef (OpenLaw.row PySem.Challenge.rw_paystack_k10_money_laid_by).prog 21) (kwd := []) K10.Hd.obh_eq
    (by kernel_rfl) (fun s => by kernel_rfl) K10.Hd.run (by kernel_rfl) (by kernel_rfl) (by kernel_rfl) (by rfl) (by first | assumption | decide +kernel) (by decide +kernel) ⟨rfl, rfl, rfl, rfl, rfl, by decide +kernel⟩ ?hw ?hc
  case hw => w_witness2
  case hc =>
    exact Mi.law_end (l := PySem.Challenge.rw_paystack_k10_money_laid_by) (n := 63) (k := 9) (x := "script") (st := K10.s_law) rfl (by decide) (by kernel_rfl) ⟨rfl, by decide, by decide⟩ (by kernel_rfl) (List.mem_of_getElem? (i := 25) rfl) (List.mem_of_getElem? (i := 24) rfl)
      (fun _ _ _ _ _ _ us hl => match us, hl with | [_], _ => rfl) (fun w K mg h base c KB GB TB => K10.ok_law (K10.Hd.facts_of c KB GB TB)) math

theorem PySem.Challenge.cw_paystack_k10_money_laid_by_holds : PySem.Challenge.rw_paystack_k10_money_laid_by.Holds := by
  exact PySem.Challenge.cw_paystack_k10_money_laid_by_holds_of K10.math
