import PyProof.Rows.All
import Wide.All
import OpenK.AllK
import Wide.FinOn
import HandS.ForMost
import HandS.ForExc
import HandS.EndTab
import HandS.AnyAll
import HandS.Wide
import HandS.FStr
import HandS.Conv
import HandS.Deep
import HandS.TupAny
import HandS.CallSlots
import HandS.Style
import HandS.Steps
import HandS.JoinGen
import HandS.Head0
import HandS.Head1
import HandS.Head2
import HandS.HeadEnd
import HandS.HeadHook1
import HandS.HeadHook2
import HandS.HeadHook3
import HandS.HeadHook4
import HandS.HeadWalk
import PySem.Challenge.RW_paystack_k01_days_and_spans_paid
set_option Elab.async false
set_option linter.all false
set_option maxRecDepth 100000
set_option maxHeartbeats 4000000
namespace Mi
open PySem L2

/-! ### data -/
inductive D where
  | non | bl (b : Bool) | int (i : Int) | str (x : Str)
  | tup (xs : List D) | lst (xs : List D) | dct (ks : List Key) (xs : List D)
  | ref (n : Nat) | lam (n : Nat) | scr (ns : List Int)
  deriving Inhabited
inductive SO where
  | lst (xs : List D) | dct (ks : List Key) (xs : List D) | ins (c : Str) (fs : List Str) (xs : List D)
  deriving Inhabited
abbrev Sto := List SO
abbrev En := List (Option D)
inductive Out (α : Type) where
  | ok (a : α) (m : Sto) | exc (c : Str) (m : Sto)
abbrev Cb (α : Type) := En → Sto → Option (Out α)

/-- what stays the same through the whole law -/
structure Gb where
  P : Program
  w : World
  K : PySem.W.Frag
  mg : Str → Option Value
  base : Heap
  T : List (Addr × Str)
  cls : Str → Addr

def KLst (K : PySem.W.Frag) (a : Addr) (xs : List V) : Prop :=
  ∃ (o : Obj) (its : Array Value) (n : Nat), K.lookup a = some o ∧ o.cls = .type "list" ∧ o.dict = none ∧ o.data = .seq its n ∧ its.size ≤ sizeLine ∧ Vals xs its.toList
def KTup (K : PySem.W.Frag) (a : Addr) (xs : List V) : Prop :=
  ∃ (o : Obj) (its : Array Value) (n : Nat), K.lookup a = some o ∧ o.cls = .type "tuple" ∧ o.data = .seq its n ∧ its.size ≤ sizeLine ∧ Vals xs its.toList
/-- of a frame: what its lambdas are (number, address, object); what is another frame's own -/
structure Lr where
  lam : Nat → Addr → Addr → Str → HO → Prop
  av : List Addr
abbrev Lr.pure (Λ : Lr) : Lr := ⟨fun _ _ _ _ _ => False, Λ.av⟩
/-- a frozen list, a tuple -/
def FzL (K : PySem.W.Frag) (Λ : Lr) (ι : List Addr) (H : Hp) (a : Addr) (xs : List V) : Prop := (Rd H a (.lst xs) ∧ a ∉ ι ∧ a ∉ Λ.av) ∨ KLst K a xs
def FzM (Λ : Lr) (ι : List Addr) (H : Hp) (a : Addr) (xs : List V) : Prop := Rd H a (.lst xs) ∧ a ∉ ι ∧ a ∉ Λ.av
def FzT (K : PySem.W.Frag) (Λ : Lr) (ι : List Addr) (H : Hp) (a : Addr) (xs : List V) : Prop := (Rd H a (.tup xs) ∧ a ∉ ι ∧ a ∉ Λ.av) ∨ KTup K a xs
theorem FzL.sq {K Λ ι H a xs} (h : FzL K Λ ι H a xs) : SqL K H a xs := h.elim (fun h => .inl h.1) .inr
theorem FzT.sq {K Λ ι H a xs} (h : FzT K Λ ι H a xs) : SqT K H a xs := h.elim (fun h => .inl h.1) .inr

mutual
/-- the value v stands for d -/
def Rep (K : PySem.W.Frag) (Λ : Lr) (ι : List Addr) (H : Hp) : D → V → Prop
  | .non, v => v = .non
  | .bl b, v => v = .bl b
  | .int i, v => v = .int i
  | .str x, v => v = .str x
  | .tup xs, v => ∃ a vs, v = .ref a ∧ FzT K Λ ι H a vs ∧ Reps K Λ ι H xs vs
  | .lst xs, v => ∃ a vs, v = .ref a ∧ FzM Λ ι H a vs ∧ Reps K Λ ι H xs vs
  | .dct ks xs, v => ∃ a kvs, v = .ref a ∧ Rd H a (.dK kvs) ∧ (a ∉ ι ∧ a ∉ Λ.av) ∧ kvs.map (·.1) = ks ∧ Reps K Λ ι H xs (kvs.map (·.2))
  | .ref n, v => ∃ a, v = .ref a ∧ ι[n]? = some a
  | .lam n, v => ∃ a c q o, v = .ref a ∧ H a = some o ∧ (∀ ps, o ≠ .tbl ps) ∧ (a ∉ ι ∧ a ∉ Λ.av) ∧ H c = some (LamX.CodeO c q) ∧ c ∉ ι ∧ Λ.lam n a c q o
  | .scr ns, v => ∃ a, v = .ref a ∧ FzL K Λ ι H a (ns.map V.int)
def Reps (K : PySem.W.Frag) (Λ : Lr) (ι : List Addr) (H : Hp) : List D → List V → Prop
  | [], vs => vs = []
  | d :: ds, vs => ∃ v r, vs = v :: r ∧ Rep K Λ ι H d v ∧ Reps K Λ ι H ds r
end

/-- nothing stands there but perhaps a table -/
def NT (H : Hp) (a : Addr) : Prop := ∀ o, H a = some o → ∃ ps, o = .tbl ps
theorem NT.of_none {H : Hp} {a : Addr} (h : H a = none) : NT H a := fun o e => by rw [h] at e; cases e
theorem NT.no {H : Hp} {a : Addr} {o : HO} (n : NT H a) (h : H a = some o) (nt : ∀ ps, o ≠ .tbl ps) : False := let ⟨ps, e⟩ := n o h; nt ps e
/-- what an evaluation may do: new store objects, all else that is tracked stays (the store's own and the tables apart) -/
structure Ext (ι : List Addr) (H : Hp) (ι' : List Addr) (H' : Hp) : Prop where
  pre : ∃ r, ι' = ι ++ r ∧ ∀ a ∈ r, NT H a
  keep : ∀ a o, H a = some o → (∀ ps, o ≠ .tbl ps) → a ∉ ι → H' a = some o
  nt : ∀ a, NT H' a → NT H a
theorem Ext.refl (ι H) : Ext ι H ι H := ⟨⟨[], by simp, by simp⟩, fun _ _ h _ _ => h, fun _ h => h⟩
theorem Ext.notin {ι H ι' H'} (e : Ext ι H ι' H') {a o} (h : H a = some o) (ht : ∀ ps, o ≠ .tbl ps) (n : a ∉ ι) : a ∉ ι' := by
  obtain ⟨r, rfl, hr⟩ := e.pre
  intro hm
  rcases List.mem_append.mp hm with z | z
  · exact n z
  · exact (hr a z).no h ht
theorem Ext.trans {ι H ι1 H1 ι2 H2} (e : Ext ι H ι1 H1) (f : Ext ι1 H1 ι2 H2) : Ext ι H ι2 H2 := by
  refine ⟨?_, fun a o h n ni => f.keep a o (e.keep a o h n ni) n (e.notin h n ni), fun a h => e.nt a (f.nt a h)⟩
  obtain ⟨r, rfl, hr⟩ := e.pre
  obtain ⟨q, rfl, hq⟩ := f.pre
  refine ⟨r ++ q, by simp, fun a ha => ?_⟩
  rcases List.mem_append.mp ha with z | z
  · exact hr a z
  · exact e.nt a (hq a z)
theorem Ext.get {ι H ι' H'} (e : Ext ι H ι' H') {n : Nat} {a : Addr} (h : ι[n]? = some a) : ι'[n]? = some a := by
  obtain ⟨r, rfl, _⟩ := e.pre
  rw [List.getElem?_append_left]
  · exact h
  · exact (List.getElem?_eq_some_iff.mp h).1
/-- everything stays -/
abbrev Sam (H H' : Hp) : Prop := ∀ a o, H a = some o → H' a = some o
theorem Ext.of_sam {ι H H'} (s : Sam H H') : Ext ι H ι H' := ⟨⟨[], by simp, by simp⟩, fun a o h _ _ => s a o h, fun a h o q => h o (s a o q)⟩
theorem sam_upd {H : Hp} {p : Addr} {o : HO} (h : H p = none) : Sam H (upd H p o) := fun a u e => by
  rw [upd_ne (ne_of_none e h)]; exact e
theorem Rd.ext {ι H ι' H' a u} (e : Ext ι H ι' H') (h : Rd H a u) (n : a ∉ ι) (nt : ∀ ps, u ≠ .tbl ps) : Rd H' a u ∧ a ∉ ι' := by
  rcases h with h | ⟨o, h⟩
  · exact ⟨.inl (e.keep _ _ h nt n), e.notin h nt n⟩
  · exact ⟨.inr ⟨o, e.keep _ _ h (by intro ps z; cases z) n⟩, e.notin h (by intro ps z; cases z) n⟩
theorem Rd.ext2 {ι H ι' H' a u} {av : List Addr} (e : Ext ι H ι' H') (h : Rd H a u) (n : a ∉ ι ∧ a ∉ av) (nt : ∀ ps, u ≠ .tbl ps) : Rd H' a u ∧ a ∉ ι' ∧ a ∉ av :=
  ⟨(Rd.ext e h n.1 nt).1, (Rd.ext e h n.1 nt).2, n.2⟩
theorem FzL.ext {K Λ ι H ι' H' a xs} (e : Ext ι H ι' H') (h : FzL K Λ ι H a xs) : FzL K Λ ι' H' a xs := h.elim (fun h => .inl (Rd.ext2 e h.1 h.2 (by intro ps z; cases z))) .inr
theorem FzM.ext {Λ ι H ι' H' a xs} (e : Ext ι H ι' H') (h : FzM Λ ι H a xs) : FzM Λ ι' H' a xs := Rd.ext2 e h.1 h.2 (by intro ps z; cases z)
theorem FzT.ext {K Λ ι H ι' H' a xs} (e : Ext ι H ι' H') (h : FzT K Λ ι H a xs) : FzT K Λ ι' H' a xs := h.elim (fun h => .inl (Rd.ext2 e h.1 h.2 (by intro ps z; cases z))) .inr
section
variable {K : PySem.W.Frag} {Λ : Lr} {ι ι' : List Addr} {H H' : Hp}
mutual
theorem Rep.ext (e : Ext ι H ι' H') : ∀ (d : D) {v : V}, Rep K Λ ι H d v → Rep K Λ ι' H' d v
  | .non, _, h => h
  | .bl _, _, h => h
  | .int _, _, h => h
  | .str _, _, h => h
  | .tup xs, _, ⟨a, vs, h1, h2, h3⟩ => ⟨a, vs, h1, h2.ext e, Reps.ext e xs h3⟩
  | .lst xs, _, ⟨a, vs, h1, h2, h3⟩ => ⟨a, vs, h1, h2.ext e, Reps.ext e xs h3⟩
  | .dct ks xs, _, ⟨a, kvs, h1, h2, h3, h4, h5⟩ => ⟨a, kvs, h1, (Rd.ext2 e h2 h3 (by intro ps z; cases z)).1, (Rd.ext2 e h2 h3 (by intro ps z; cases z)).2, h4, Reps.ext e xs h5⟩
  | .ref n, _, ⟨a, h1, h2⟩ => ⟨a, h1, e.get h2⟩
  | .lam n, _, ⟨a, c, q, o, h1, h2, h3, h4, h5, h6, h7⟩ => ⟨a, c, q, o, h1, e.keep _ _ h2 h3 h4.1, h3, ⟨e.notin h2 h3 h4.1, h4.2⟩, e.keep _ _ h5 LamX.codeO_ne h6, e.notin h5 LamX.codeO_ne h6, h7⟩
  | .scr ns, _, ⟨a, h1, h2⟩ => ⟨a, h1, h2.ext e⟩
theorem Reps.ext (e : Ext ι H ι' H') : ∀ (ds : List D) {vs : List V}, Reps K Λ ι H ds vs → Reps K Λ ι' H' ds vs
  | [], _, h => h
  | d :: ds, _, ⟨v, r, h1, h2, h3⟩ => ⟨v, r, h1, Rep.ext e d h2, Reps.ext e ds h3⟩
end
theorem Reps.len : ∀ {ds : List D} {vs : List V}, Reps K Λ ι H ds vs → ds.length = vs.length
  | [], _, h => by cases (show _ = [] from h); rfl
  | d :: ds, _, ⟨v, r, h1, _, h3⟩ => by subst h1; simp [Reps.len h3]
theorem Reps.get : ∀ {ds : List D} {vs : List V} {i : Nat} {d : D}, Reps K Λ ι H ds vs → ds[i]? = some d → ∃ v, vs[i]? = some v ∧ Rep K Λ ι H d v
  | [], _, _, _, _, e => by simp at e
  | d :: ds, _, 0, _, ⟨v, r, h1, h2, h3⟩, e => by simp at e; subst e; subst h1; exact ⟨v, rfl, h2⟩
  | d :: ds, _, i + 1, _, ⟨v, r, h1, h2, h3⟩, e => by
    subst h1
    obtain ⟨u, q1, q2⟩ := Reps.get (i := i) h3 (by simpa using e)
    exact ⟨u, by simpa using q1, q2⟩
theorem Reps.get' : ∀ {ds : List D} {vs : List V} {i : Nat} {v : V}, Reps K Λ ι H ds vs → vs[i]? = some v → ∃ d, ds[i]? = some d ∧ Rep K Λ ι H d v
  | [], _, _, _, h, e => by cases (show _ = [] from h); simp at e
  | d :: ds, _, 0, _, ⟨v, r, h1, h2, h3⟩, e => by subst h1; simp at e; subst e; exact ⟨d, rfl, h2⟩
  | d :: ds, _, i + 1, _, ⟨v, r, h1, h2, h3⟩, e => by
    subst h1
    obtain ⟨u, q1, q2⟩ := Reps.get' (i := i) h3 (by simpa using e)
    exact ⟨u, by simpa using q1, q2⟩
theorem Reps.app : ∀ {ds es : List D} {vs ws : List V}, Reps K Λ ι H ds vs → Reps K Λ ι H es ws → Reps K Λ ι H (ds ++ es) (vs ++ ws)
  | [], _, _, _, h, k => by cases (show _ = [] from h); exact k
  | d :: ds, _, _, _, ⟨v, r, h1, h2, h3⟩, k => by subst h1; exact ⟨v, r ++ _, rfl, h2, Reps.app h3 k⟩
theorem Reps.take : ∀ {ds : List D} {vs : List V} (n : Nat), Reps K Λ ι H ds vs → Reps K Λ ι H (ds.take n) (vs.take n)
  | _, _, 0, _ => rfl
  | [], _, n + 1, h => by cases (show _ = [] from h); rfl
  | d :: ds, _, n + 1, ⟨v, r, h1, h2, h3⟩ => by subst h1; exact ⟨v, r.take n, rfl, h2, Reps.take n h3⟩
theorem Reps.drop : ∀ {ds : List D} {vs : List V} (n : Nat), Reps K Λ ι H ds vs → Reps K Λ ι H (ds.drop n) (vs.drop n)
  | _, _, 0, h => h
  | [], _, n + 1, h => by cases (show _ = [] from h); rfl
  | d :: ds, _, n + 1, ⟨v, r, h1, h2, h3⟩ => by subst h1; exact Reps.drop n h3
theorem Reps.set : ∀ {ds : List D} {vs : List V} {d : D} {v : V} (n : Nat), Reps K Λ ι H ds vs → Rep K Λ ι H d v → Reps K Λ ι H (ds.set n d) (vs.set n v)
  | [], _, _, _, _, h, _ => by cases (show _ = [] from h); rfl
  | d :: ds, _, _, _, 0, ⟨v, r, h1, h2, h3⟩, k => by subst h1; exact ⟨_, r, rfl, k, h3⟩
  | d :: ds, _, _, _, n + 1, ⟨v, r, h1, h2, h3⟩, k => by subst h1; exact ⟨v, _, rfl, h2, Reps.set n h3 k⟩
theorem Reps.one {d : D} {v : V} (h : Rep K Λ ι H d v) : Reps K Λ ι H [d] [v] := ⟨v, [], rfl, h, rfl⟩
theorem Reps.ints : ∀ {ns : List Int} {vs : List V}, Reps K Λ ι H (ns.map .int) vs → vs = ns.map V.int
  | [], _, h => h
  | n :: ns, _, ⟨v, r, h1, h2, h3⟩ => by subst h1; cases (show v = .int n from h2); rw [Reps.ints h3]; rfl
theorem Reps.of_ints : ∀ {ns : List Int}, Reps K Λ ι H (ns.map .int) (ns.map V.int)
  | [] => rfl
  | n :: ns => ⟨_, _, rfl, rfl, Reps.of_ints⟩
end
mutual
/-- no lambda within -/
def lamf : D → Bool
  | .tup xs => lamfs xs
  | .lst xs => lamfs xs
  | .dct _ xs => lamfs xs
  | .lam _ => false
  | _ => true
def lamfs : List D → Bool
  | [] => true
  | d :: ds => lamf d && lamfs ds
end
mutual
/-- neither a lambda nor an object of the store within -/
def pur : D → Bool
  | .tup xs => purs xs
  | .lst xs => purs xs
  | .dct _ xs => purs xs
  | .lam _ => false
  | .ref _ => false
  | .scr _ => false
  | _ => true
def purs : List D → Bool
  | [] => true
  | d :: ds => pur d && purs ds
end
section
variable {K : PySem.W.Frag} {Λ Λ' : Lr} {ι ι' : List Addr} {H : Hp}
mutual
theorem Rep.lam (ha : Λ'.av = Λ.av) : ∀ (d : D) {v : V}, lamf d = true → Rep K Λ ι H d v → Rep K Λ' ι H d v
  | .non, _, _, h => h
  | .bl _, _, _, h => h
  | .int _, _, _, h => h
  | .str _, _, _, h => h
  | .tup xs, _, f, ⟨a, vs, h1, h2, h3⟩ => ⟨a, vs, h1, by unfold FzT at h2 ⊢; rw [ha]; exact h2, Reps.lam ha xs f h3⟩
  | .lst xs, _, f, ⟨a, vs, h1, h2, h3⟩ => ⟨a, vs, h1, by unfold FzM at h2 ⊢; rw [ha]; exact h2, Reps.lam ha xs f h3⟩
  | .dct ks xs, _, f, ⟨a, kvs, h1, h2, h3, h4, h5⟩ => ⟨a, kvs, h1, h2, by rw [ha]; exact h3, h4, Reps.lam ha xs f h5⟩
  | .ref n, _, _, h => h
  | .lam n, _, f, _ => by simp [lamf] at f
  | .scr ns, _, _, ⟨a, h1, h2⟩ => ⟨a, h1, by unfold FzL at h2 ⊢; rw [ha]; exact h2⟩
theorem Reps.lam (ha : Λ'.av = Λ.av) : ∀ (ds : List D) {vs : List V}, lamfs ds = true → Reps K Λ ι H ds vs → Reps K Λ' ι H ds vs
  | [], _, _, h => h
  | d :: ds, _, f, ⟨v, r, h1, h2, h3⟩ => by
    simp only [lamfs, Bool.and_eq_true] at f
    exact ⟨v, r, h1, Rep.lam ha d f.1 h2, Reps.lam ha ds f.2 h3⟩
end
mutual
theorem Rep.of_pure : ∀ (d : D) {v : V}, Rep K Λ.pure ι H d v → Rep K Λ ι H d v
  | .non, _, h => h
  | .bl _, _, h => h
  | .int _, _, h => h
  | .str _, _, h => h
  | .tup xs, _, ⟨a, vs, h1, h2, h3⟩ => ⟨a, vs, h1, h2, Reps.of_pure xs h3⟩
  | .lst xs, _, ⟨a, vs, h1, h2, h3⟩ => ⟨a, vs, h1, h2, Reps.of_pure xs h3⟩
  | .dct ks xs, _, ⟨a, kvs, h1, h2, h3, h4, h5⟩ => ⟨a, kvs, h1, h2, h3, h4, Reps.of_pure xs h5⟩
  | .ref n, _, h => h
  | .lam n, _, ⟨a, c, q, o, _, _, _, _, _, _, h⟩ => h.elim
  | .scr ns, _, h => h
theorem Reps.of_pure : ∀ (ds : List D) {vs : List V}, Reps K Λ.pure ι H ds vs → Reps K Λ ι H ds vs
  | [], _, h => h
  | d :: ds, _, ⟨v, r, h1, h2, h3⟩ => ⟨v, r, h1, Rep.of_pure d h2, Reps.of_pure ds h3⟩
end
mutual
/-- a datum without objects of the store, seen from another frame -/
theorem Rep.pur (hv : ∀ a, a ∉ ι → a ∉ Λ.av → a ∉ ι' ∧ a ∉ Λ'.av) : ∀ (d : D) {v : V}, pur d = true → Rep K Λ ι H d v → Rep K Λ' ι' H d v
  | .non, _, _, h => h
  | .bl _, _, _, h => h
  | .int _, _, _, h => h
  | .str _, _, _, h => h
  | .tup xs, _, f, ⟨a, vs, h1, h2, h3⟩ => ⟨a, vs, h1, h2.elim (fun h => .inl ⟨h.1, hv a h.2.1 h.2.2⟩) .inr, Reps.pur hv xs f h3⟩
  | .lst xs, _, f, ⟨a, vs, h1, h2, h3⟩ => ⟨a, vs, h1, ⟨h2.1, hv a h2.2.1 h2.2.2⟩, Reps.pur hv xs f h3⟩
  | .dct ks xs, _, f, ⟨a, kvs, h1, h2, h3, h4, h5⟩ => ⟨a, kvs, h1, h2, hv a h3.1 h3.2, h4, Reps.pur hv xs f h5⟩
  | .ref n, _, f, _ => by simp [Mi.pur] at f
  | .lam n, _, f, _ => by simp [Mi.pur] at f
  | .scr ns, _, f, _ => by simp [Mi.pur] at f
theorem Reps.pur (hv : ∀ a, a ∉ ι → a ∉ Λ.av → a ∉ ι' ∧ a ∉ Λ'.av) : ∀ (ds : List D) {vs : List V}, purs ds = true → Reps K Λ ι H ds vs → Reps K Λ' ι' H ds vs
  | [], _, _, h => h
  | d :: ds, _, f, ⟨v, r, h1, h2, h3⟩ => by
    simp only [purs, Bool.and_eq_true] at f
    exact ⟨v, r, h1, Rep.pur hv d f.1 h2, Reps.pur hv ds f.2 h3⟩
end
end

/-- the store -/
def ObjR (g : Gb) (Λ : Lr) (ι : List Addr) (H : Hp) : SO → Addr → Prop
  | .lst xs, a => ∃ vs, H a = some (.lst vs) ∧ Reps g.K Λ.pure ι H xs vs
  | .dct ks xs, a => ∃ kvs, H a = some (.dK kvs) ∧ kvs.map (·.1) = ks ∧ Reps g.K Λ.pure ι H xs (kvs.map (·.2))
  | .ins c fs xs, a => ∃ dx vfs, H a = some (.ins (g.cls c) dx vfs) ∧ (dx ∉ ι ∧ dx ∉ Λ.av) ∧ H dx = some (.own a) ∧ vfs.map (·.1) = fs ∧ Reps g.K Λ.pure ι H xs (vfs.map (·.2))
structure MR (g : Gb) (Λ : Lr) (ι : List Addr) (H : Hp) (μ : Sto) : Prop where
  len : ι.length = μ.length
  nd : ι.Nodup
  ob : ∀ (n : Nat) (so : SO), μ[n]? = some so → ∃ a : Addr, ι[n]? = some a ∧ ObjR g Λ ι H so a
  tabs : LamX.Tabs g.T H
  avs : ∀ a ∈ Λ.av, ¬ NT H a
/-- the frame's names -/
structure LR (g : Gb) (Λ : Lr) (ι : List Addr) (H : Hp) (σ : St) (ρ : En) : Prop where
  len : ρ.length = σ.length
  at_ : ∀ (i : Nat) (d : D), ρ[i]? = some (some d) → ∃ v : V, σ[i]? = some (some v) ∧ Rep g.K Λ ι H d v
theorem LR.ext {g Λ ι H ι' H' σ ρ} (e : Ext ι H ι' H') (h : LR g Λ ι H σ ρ) : LR g Λ ι' H' σ ρ := ⟨h.len, fun i d q => by
  obtain ⟨v, h1, h2⟩ := h.at_ i d q
  exact ⟨v, h1, h2.ext e⟩⟩
theorem LR.set {g Λ ι H σ ρ} (h : LR g Λ ι H σ ρ) {d : D} {v : V} (r : Rep g.K Λ ι H d v) (i : Nat) : LR g Λ ι H (σ.set i (some v)) (ρ.set i (some d)) := by
  refine ⟨by simp [h.len], fun j d' q => ?_⟩
  by_cases e : i = j
  · subst e
    have hl : i < ρ.length := by
      have := (List.getElem?_eq_some_iff.mp q).1
      simpa using this
    rw [List.getElem?_set_self hl] at q
    cases q
    exact ⟨v, List.getElem?_set_self (by rw [← h.len]; exact hl), r⟩
  · rw [List.getElem?_set_ne e] at q
    obtain ⟨u, h1, h2⟩ := h.at_ j d' q
    exact ⟨u, by rw [List.getElem?_set_ne e]; exact h1, h2⟩
theorem ObjR.sam {g Λ ι H H'} (s : Sam H H') : ∀ {so a}, ObjR g Λ ι H so a → ObjR g Λ ι H' so a
  | .lst xs, _, ⟨vs, h1, h2⟩ => ⟨vs, s _ _ h1, Reps.ext (.of_sam s) xs h2⟩
  | .dct ks xs, _, ⟨kvs, h1, h2, h3⟩ => ⟨kvs, s _ _ h1, h2, Reps.ext (.of_sam s) xs h3⟩
  | .ins c fs xs, _, ⟨dx, vfs, h1, h2, h3, h4, h5⟩ => ⟨dx, vfs, s _ _ h1, h2, s _ _ h3, h4, Reps.ext (.of_sam s) xs h5⟩
theorem MR.sam {g Λ ι H H' μ} (s : Sam H H') (h : MR g Λ ι H μ) : MR g Λ ι H' μ := ⟨h.len, h.nd, fun n so q => by
  obtain ⟨a, h1, h2⟩ := h.ob n so q
  exact ⟨a, h1, h2.sam s⟩, h.tabs.ext s, fun a ha n => h.avs a ha ((Ext.of_sam (ι := []) s).nt a n)⟩
/-- a mutable object of the store is no table, no frozen thing -/
theorem MR.mem {g Λ ι H μ} (h : MR g Λ ι H μ) {a : Addr} (ha : a ∈ ι) : (∃ vs, H a = some (.lst vs)) ∨ (∃ kvs, H a = some (.dK kvs)) ∨ ∃ C dx fs, H a = some (.ins C dx fs) := by
  obtain ⟨n, hn, e⟩ := List.getElem_of_mem ha
  have hm : n < μ.length := by rw [← h.len]; exact hn
  obtain ⟨b, h1, h2⟩ := h.ob n μ[n] (List.getElem?_eq_getElem hm)
  have : b = a := by rw [List.getElem?_eq_getElem hn] at h1; rw [← e]; exact (Option.some.inj h1).symm
  subst this
  cases q : μ[n] with
  | lst xs => rw [q] at h2; obtain ⟨vs, h2, _⟩ := h2; exact .inl ⟨vs, h2⟩
  | dct ks xs => rw [q] at h2; obtain ⟨vs, h2, _⟩ := h2; exact .inr (.inl ⟨vs, h2⟩)
  | ins c fs xs => rw [q] at h2; obtain ⟨dx, vs, h2, _⟩ := h2; exact .inr (.inr ⟨_, _, _, h2⟩)

/-! ### contexts, readings -/
structure XOk (g : Gb) (k : Nat) (X : Cx) : Prop where
  P : X.prog = g.P
  w : X.w = g.w
  K : X.K = g.K
  mg : X.mg = g.mg
  base : X.base = g.base
  calm : X.calm = true
  room : Room k X.A
  nd : X.N.Nodup
  po : PassesOwn (model X.prog X.w) X.A X.env X.xe
def Post (g : Gb) (Λ : Lr) (W : WX) (ι : List Addr) (H : Hp) (σ : St) (r : Out D) (Q : VK) : Prop :=
  match r with
  | .ok d μ => ∀ ι' H' v, Ext ι H ι' H' → MR g Λ ι' H' μ → Rep g.K Λ ι' H' d v → Q v H'
  | .exc c μ => ∀ ι' H', Ext ι H ι' H' → MR g Λ ι' H' μ → W (.ref (g.cls c)) none σ H'
def rdE (g : Gb) (Λ : Lr) (W : WX) (f : Cb D) : TE := fun σ H Q => ∃ ι ρ μ r, LR g Λ ι H σ ρ ∧ MR g Λ ι H μ ∧ f ρ μ = some r ∧ Post g Λ W ι H σ r Q
def DE (g : Gb) (k : Nat) (Λ : Lr) (X : Cx) (W : WX) (e : Expr) (f : Cb D) : Prop := XOk g k X → Takes X W → PE X e (rdE g Λ W f)
def PostA (g : Gb) (Λ : Lr) (W : WX) (ι : List Addr) (H : Hp) (σ : St) (r : Out (List D)) (Q : List V → Hp → Prop) : Prop :=
  match r with
  | .ok ds μ => ∀ ι' H' vs, Ext ι H ι' H' → MR g Λ ι' H' μ → Reps g.K Λ ι' H' ds vs → Q vs H'
  | .exc c μ => ∀ ι' H', Ext ι H ι' H' → MR g Λ ι' H' μ → W (.ref (g.cls c)) none σ H'
def rdA (g : Gb) (Λ : Lr) (W : WX) (f : Cb (List D)) : TA := fun σ H Q => ∃ ι ρ μ r, LR g Λ ι H σ ρ ∧ MR g Λ ι H μ ∧ f ρ μ = some r ∧ PostA g Λ W ι H σ r Q
def DA (g : Gb) (k : Nat) (Λ : Lr) (X : Cx) (W : WX) (es : List Expr) (f : Cb (List D)) : Prop := XOk g k X → Takes X W → PA X es (rdA g Λ W f)
def PostT (g : Gb) (Λ : Lr) (W : WX) (ι : List Addr) (H : Hp) (σ : St) (r : Out Bool) (Q : Bool → Hp → Prop) : Prop :=
  match r with
  | .ok b μ => ∀ ι' H', Ext ι H ι' H' → MR g Λ ι' H' μ → Q b H'
  | .exc c μ => ∀ ι' H', Ext ι H ι' H' → MR g Λ ι' H' μ → W (.ref (g.cls c)) none σ H'
def rdT (g : Gb) (Λ : Lr) (W : WX) (f : Cb Bool) : TT := fun σ H Q => ∃ ι ρ μ r, LR g Λ ι H σ ρ ∧ MR g Λ ι H μ ∧ f ρ μ = some r ∧ PostT g Λ W ι H σ r Q
def DT (g : Gb) (k : Nat) (Λ : Lr) (X : Cx) (W : WX) (e : Expr) (f : Cb Bool) : Prop := XOk g k X → Takes X W → PT X e (rdT g Λ W f)
theorem PE.imp {X : Cx} {e : Expr} {t u : TE} (h : PE X e t) (i : ∀ σ H Q, u σ H Q → t σ H Q) : PE X e u := ⟨fun pins s σ H Q I q => h.run pins s σ H Q I (i σ H Q q)⟩
theorem PT.imp {X : Cx} {e : Expr} {t u : TT} (h : PT X e t) (i : ∀ σ H Q, u σ H Q → t σ H Q) : PT X e u := ⟨fun pins s σ H Q I q => h.run pins s σ H Q I (i σ H Q q)⟩
theorem PA.imp {X : Cx} {e : List Expr} {t u : TA} (h : PA X e t) (i : ∀ σ H Q, u σ H Q → t σ H Q) : PA X e u := ⟨fun pos pins s σ H Q I q => h.run pos pins s σ H Q I (i σ H Q q)⟩

/-! ### plumbing -/
@[simp] def ob {α β : Type} (r : Option (Out α)) (k : α → Sto → Option (Out β)) : Option (Out β) :=
  match r with
  | some (.ok a m) => k a m
  | some (.exc c m) => some (.exc c m)
  | none => none
section
variable {g : Gb} {Λ : Lr} {W : WX} {ι : List Addr} {H : Hp} {σ : St} {ρ : En} {μ : Sto}
/-- first f, then what follows by its value -/
theorem rdE_bind {f : Cb D} {kk : D → Sto → Option (Out D)} {r : Out D} {R Q : VK} (l : LR g Λ ι H σ ρ) (m : MR g Λ ι H μ) (h : ob (f ρ μ) kk = some r) (p : Post g Λ W ι H σ r Q)
    (go : ∀ d μ1 ι1 H1 v, f ρ μ = some (.ok d μ1) → kk d μ1 = some r → Ext ι H ι1 H1 → MR g Λ ι1 H1 μ1 → LR g Λ ι1 H1 σ ρ → Rep g.K Λ ι1 H1 d v → Post g Λ W ι1 H1 σ r Q → R v H1) : rdE g Λ W f σ H R := by
  cases q : f ρ μ with
  | none => rw [q] at h; cases h
  | some o =>
    refine ⟨ι, ρ, μ, o, l, m, q, ?_⟩
    cases o with
    | ok d μ1 =>
      rw [q] at h
      intro ι1 H1 v e m1 r1
      refine go d μ1 ι1 H1 v q h e m1 (l.ext e) r1 ?_
      cases r with
      | ok d' μ' => exact fun ι2 H2 v2 e2 => p ι2 H2 v2 (e.trans e2)
      | exc c μ' => exact fun ι2 H2 e2 => p ι2 H2 (e.trans e2)
    | exc c μ1 =>
      rw [q] at h
      cases (show some (Out.exc c μ1) = some r from h)
      exact p
end
end Mi

set_option Elab.async false
set_option linter.all false
set_option maxRecDepth 100000
set_option maxHeartbeats 4000000
namespace Mi
open PySem L2

/-! ### new objects -/
section
variable {g : Gb} {Λ : Lr} {ι : List Addr} {H : Hp} {μ : Sto}
theorem MR.fresh (m : MR g Λ ι H μ) {p : Addr} (h : H p = none) : p ∉ ι ∧ p ∉ Λ.av := by
  refine ⟨fun hm => ?_, fun hm => m.avs p hm (.of_none h)⟩
  rcases m.mem hm with ⟨_, e⟩ | ⟨_, e⟩ | ⟨_, _, _, e⟩ <;> rw [h] at e <;> cases e
theorem new_tup (m : MR g Λ ι H μ) {p : Addr} (h : H p = none) {ds : List D} {vs : List V} (r : Reps g.K Λ ι H ds vs) :
    Ext ι H ι (upd H p (.tup vs)) ∧ MR g Λ ι (upd H p (.tup vs)) μ ∧ Rep g.K Λ ι (upd H p (.tup vs)) (.tup ds) (.ref p) :=
  ⟨.of_sam (sam_upd h), m.sam (sam_upd h), ⟨p, vs, rfl, .inl ⟨.inl upd_same, m.fresh h⟩, Reps.ext (.of_sam (sam_upd h)) ds r⟩⟩
theorem new_lst (m : MR g Λ ι H μ) {p : Addr} (h : H p = none) {ds : List D} {vs : List V} (r : Reps g.K Λ ι H ds vs) :
    Ext ι H ι (upd H p (.lst vs)) ∧ MR g Λ ι (upd H p (.lst vs)) μ ∧ Rep g.K Λ ι (upd H p (.lst vs)) (.lst ds) (.ref p) :=
  ⟨.of_sam (sam_upd h), m.sam (sam_upd h), ⟨p, vs, rfl, ⟨.inl upd_same, m.fresh h⟩, Reps.ext (.of_sam (sam_upd h)) ds r⟩⟩
theorem ext_push {p : Addr} {o : HO} (h : H p = none) : Ext ι H (ι ++ [p]) (upd H p o) :=
  ⟨⟨[p], rfl, fun a ha => by rw [show a = p by simpa using ha]; exact .of_none h⟩, fun a o e _ _ => sam_upd h a o e, (Ext.of_sam (ι := []) (sam_upd h)).nt⟩
theorem ObjR.ext {ι' : List Addr} {H' : Hp} (e : Ext ι H ι' H') (s : Sam H H') : ∀ {so a}, ObjR g Λ ι H so a → ObjR g Λ ι' H' so a
  | .lst xs, _, ⟨vs, h1, h2⟩ => ⟨vs, s _ _ h1, Reps.ext e xs h2⟩
  | .dct ks xs, _, ⟨kvs, h1, h2, h3⟩ => ⟨kvs, s _ _ h1, h2, Reps.ext e xs h3⟩
  | .ins c fs xs, _, ⟨dx, vfs, h1, h2, h3, h4, h5⟩ => ⟨dx, vfs, s _ _ h1, ⟨e.notin h3 (by intro ps z; cases z) h2.1, h2.2⟩, s _ _ h3, h4, Reps.ext e xs h5⟩
theorem new_mut (m : MR g Λ ι H μ) {p : Addr} (h : H p = none) {ds : List D} {vs : List V} (lf : lamfs ds = true) (r : Reps g.K Λ ι H ds vs) :
    Ext ι H (ι ++ [p]) (upd H p (.lst vs)) ∧ MR g Λ (ι ++ [p]) (upd H p (.lst vs)) (μ ++ [.lst ds]) ∧ Rep g.K Λ (ι ++ [p]) (upd H p (.lst vs)) (.ref μ.length) (.ref p) := by
  have e : Ext ι H (ι ++ [p]) (upd H p (.lst vs)) := ext_push h
  refine ⟨e, ⟨by simp [m.len], ?_, fun n so q => ?_, m.tabs.ext (sam_upd h), fun a ha => ?_⟩, ⟨p, rfl, ?_⟩⟩
  · refine List.nodup_append.mpr ⟨m.nd, by simp, fun a ha b hb => ?_⟩
    have : b = p := by simpa using hb
    rw [this]
    intro z
    rw [z] at ha
    exact (m.fresh h).1 ha
  · by_cases hn : n < μ.length
    · rw [List.getElem?_append_left hn] at q
      obtain ⟨a, h1, h2⟩ := m.ob n so q
      exact ⟨a, e.get h1, h2.ext e (sam_upd h)⟩
    · have hl : n = μ.length := by
        have := (List.getElem?_eq_some_iff.mp q).1
        simp at this
        omega
      subst hl
      rw [List.getElem?_concat_length] at q
      cases q
      exact ⟨p, by rw [← m.len, List.getElem?_concat_length], ⟨vs, upd_same, Reps.ext e ds (Reps.lam (Λ := Λ) (Λ' := Λ.pure) rfl ds lf r)⟩⟩
  · exact fun n => m.avs a ha (e.nt a n)
  · rw [← m.len, List.getElem?_concat_length]
end

/-! ### operations by data -/
def szl : Nat := 16777216
theorem szl_le {n : Nat} (h : n ≤ 16777216) : n ≤ sizeLine := by rw [sizeLine_eq]; omega
def vw (μ : Sto) : D → Option (List D)
  | .lst xs => some xs
  | .ref n => match μ[n]? with
    | some (.lst xs) => some xs
    | _ => none
  | _ => none
def DOp (g : Gb) (k : Nat) (Λ : Lr) (f : Value → Value → Sem Value) (o : Sto → D → D → Option D) : Prop := ∀ X, XOk g k X → OpR X f (fun x y H Q => ∃ ι μ a b d, MR g Λ ι H μ ∧ Rep g.K Λ ι H a x ∧ Rep g.K Λ ι H b y ∧ o μ a b = some d ∧
  ∀ ι' H' v, Ext ι H ι' H' → MR g Λ ι' H' μ → Rep g.K Λ ι' H' d v → Q v H')
section
variable {g : Gb} {k : Nat} {Λ : Lr} {X : Cx} {W : WX} {ι : List Addr} {H : Hp} {μ : Sto}
theorem vw_rd (m : MR g Λ ι H μ) : ∀ {d : D} {v : V} {ds : List D}, Rep g.K Λ ι H d v → vw μ d = some ds → ∃ a vs, v = .ref a ∧ Rd H a (.lst vs) ∧ Reps g.K Λ ι H ds vs
  | .lst xs, _, _, ⟨a, vs, h1, h2, h3⟩, e => by cases e; exact ⟨a, vs, h1, h2.1, h3⟩
  | .ref n, _, ds, ⟨a, h1, h2⟩, e => by
    rw [show vw μ (.ref n) = (match μ[n]? with | some (.lst xs) => some xs | _ => none) from rfl] at e
    split at e
    · rename_i xs q
      cases e
      obtain ⟨b, h3, vs, h4, h5⟩ := m.ob n _ q
      rw [h2] at h3
      cases h3
      exact ⟨a, vs, h1, .inl h4, Reps.of_pure _ h5⟩
    · cases e
  | .non, _, _, _, e => by cases e
  | .bl _, _, _, _, e => by cases e
  | .int _, _, _, _, e => by cases e
  | .str _, _, _, _, e => by cases e
  | .tup _, _, _, _, e => by cases e
  | .dct _ _, _, _, _, e => by cases e
  | .lam _, _, _, _, e => by cases e
  | .scr _, _, _, _, e => by cases e
end
theorem lstR {X : Cx} {pins : List (Addr × Obj)} {σ : St} {H : Hp} {s : Shared} {l : Addr} {xs : List V} (I : Inv X pins σ H s) (hH : Rd H l (.lst xs)) : xs.length ≤ sizeLine ∧ ∃ (its : List Value) (n : Nat), Vals xs its ∧ xs.length = its.length ∧ s.heap.get? l = some { cls := .type "list", data := .seq its.toArray n } := by
  obtain ⟨z, its, n, r, e⟩ := hH.ok I.hok
  exact ⟨z, its, n, r, r.length, e⟩
theorem op_catR {X : Cx} : OpR X (binaryOp .Add) (fun x y H Q => ∃ l b xs zs, x = .ref l ∧ y = .ref b ∧ Rd H l (.lst xs) ∧ Rd H b (.lst zs) ∧ xs.length + zs.length ≤ sizeLine ∧ ∀ p, H p = none → Q (.ref p) (upd H p (.lst (xs ++ zs)))) := by
  intro pins s σ H x y v u Q I rx ry h
  obtain ⟨l, b, xs, zs, rfl, rfl, hH, hB, hz, q⟩ := h
  cases rx
  cases ry
  obtain ⟨z, its, n, r, hl, e⟩ := lstR I hH
  obtain ⟨z2, its2, n2, r2, hl2, e2⟩ := lstR I hB
  refine PySem.P.add_list e e2 ?_ (by rw [List.size_toArray, List.size_toArray]; omega)
  have ea : its.toArray ++ its2.toArray = (its ++ its2).toArray := by simp
  rw [ea]
  exact ⟨.ref _, _, I.lnew (t' := s.toks) (r.append r2) (by rw [List.length_append]; omega), rfl, q _ I.fresh⟩
def dAdd (μ : Sto) : D → D → Option D
  | .int i, .int j => some (.int (i + j))
  | .str x, .str y => if x.length + y.length ≤ 16777216 then some (.str (x ++ y)) else none
  | .tup xs, .tup ys => if xs.length + ys.length ≤ 16777216 then some (.tup (xs ++ ys)) else none
  | a, b => match vw μ a, vw μ b with
    | some xs, some ys => if xs.length + ys.length ≤ 16777216 then some (.lst (xs ++ ys)) else none
    | _, _ => none
theorem op_add_all {X : Cx} : OpR X (binaryOp .Add) (fun x y H Q => (rI0 (fun i j => .int (i + j)) x y H Q) ∨ (∃ i j, x = .str i ∧ y = .str j ∧ i.length + j.length ≤ sizeLine ∧ Q (.str (i ++ j)) H) ∨ rCatA X.K x y H Q ∨
    (∃ l b xs zs, x = .ref l ∧ y = .ref b ∧ Rd H l (.lst xs) ∧ Rd H b (.lst zs) ∧ xs.length + zs.length ≤ sizeLine ∧ ∀ p, H p = none → Q (.ref p) (upd H p (.lst (xs ++ zs))))) := by
  intro pins s σ H x y v u Q I rx ry h
  rcases h with h | h | h | h
  · exact op_add pins s σ H x y v u Q I rx ry h
  · exact op_add_str pins s σ H x y v u Q I rx ry h
  · exact op_catA pins s σ H x y v u Q I rx ry h
  · exact op_catR pins s σ H x y v u Q I rx ry h
section
variable {g : Gb} {k : Nat} {Λ : Lr}
theorem dop_add : DOp g k Λ (binaryOp .Add) dAdd := by
  intro X ok pins s σ H x y v u Q I rx ry ⟨ι, μ, a, b, d, m, ra, rb, e, q⟩
  refine op_add_all pins s σ H x y v u Q I rx ry ?_
  have cat : ∀ {xs ys : List D}, vw μ a = some xs → vw μ b = some ys → xs.length + ys.length ≤ 16777216 → d = .lst (xs ++ ys) →
      (∃ l b xs zs, x = .ref l ∧ y = .ref b ∧ Rd H l (.lst xs) ∧ Rd H b (.lst zs) ∧ xs.length + zs.length ≤ sizeLine ∧ ∀ p, H p = none → Q (.ref p) (upd H p (.lst (xs ++ zs)))) := by
    intro xs ys h1 h2 hz hd
    obtain ⟨l, vs, e1, r1, q1⟩ := vw_rd m ra h1
    obtain ⟨l2, vs2, e2, r2, q2⟩ := vw_rd m rb h2
    refine ⟨l, l2, vs, vs2, e1, e2, r1, r2, szl_le (by rw [← q1.len, ← q2.len]; exact hz), fun p hp => ?_⟩
    obtain ⟨x1, x2, x3⟩ := new_lst m hp (q1.app q2)
    rw [hd] at q
    exact q _ _ _ x1 x2 x3
  unfold dAdd at e
  split at e
  · cases e; cases ra; cases rb
    exact .inl ⟨_, _, rfl, rfl, q ι H _ (.refl _ _) m rfl⟩
  · split at e
    · cases e; cases ra; cases rb
      exact .inr (.inl ⟨_, _, rfl, rfl, szl_le ‹_›, q ι H _ (.refl _ _) m rfl⟩)
    · cases e
  · split at e
    · cases e
      rename_i xs ys hz
      obtain ⟨a1, vs, e1, h1, q1⟩ := ra
      obtain ⟨a2, vs2, e2, h2, q2⟩ := rb
      refine .inr (.inr (.inl ⟨a1, a2, vs, vs2, e1, e2, by rw [ok.K]; exact h1.sq, by rw [ok.K]; exact h2.sq, szl_le (by rw [← q1.len, ← q2.len]; exact hz), fun z => ?_, fun _ z => ?_, fun _ _ p hp => ?_⟩))
      · subst z
        have hx : xs = [] := List.length_eq_zero_iff.mp q1.len
        subst hx
        exact q ι H _ (.refl _ _) m ⟨a2, vs2, rfl, h2, q2⟩
      · subst z
        have hx : ys = [] := List.length_eq_zero_iff.mp q2.len
        subst hx
        rw [List.append_nil] at q
        exact q ι H _ (.refl _ _) m ⟨a1, vs, rfl, h1, q1⟩
      · obtain ⟨x1, x2, x3⟩ := new_tup m hp (q1.app q2)
        exact q _ _ _ x1 x2 x3
    · cases e
  · split at e
    · rename_i xs ys h1 h2
      split at e
      · cases e; exact .inr (.inr (.inr (cat h1 h2 ‹_› rfl)))
      · cases e
    · cases e
/-- ints alone -/
def dI (C : Int → Int → Bool) (f : Int → Int → D) (_ : Sto) : D → D → Option D
  | .int i, .int j => if C i j then some (f i j) else none
  | _, _ => none
theorem dop_I {op : Value → Value → Sem Value} {C : Int → Int → Bool} {f : Int → Int → D} {P : Int → Int → Prop} {h : Int → Int → V} (hr : ∀ X : Cx, OpR X op (rI P h)) (hc : ∀ i j, C i j = true → P i j) (hf : ∀ i j K Λ ι H, Rep K Λ ι H (f i j) (h i j)) :
    DOp g k Λ op (dI C f) := by
  intro X ok pins s σ H x y v u Q I rx ry ⟨ι, μ, a, b, d, m, ra, rb, e, q⟩
  refine hr X pins s σ H x y v u Q I rx ry ?_
  unfold dI at e
  split at e
  · split at e
    · cases e; cases ra; cases rb
      exact ⟨_, _, rfl, rfl, hc _ _ ‹_›, q ι H _ (.refl _ _) m (hf _ _ _ _ _ _)⟩
    · cases e
  · cases e
theorem dop_I0 {op : Value → Value → Sem Value} {f : Int → Int → D} {h : Int → Int → V} (hr : ∀ X : Cx, OpR X op (rI0 h)) (hf : ∀ i j K Λ ι H, Rep K Λ ι H (f i j) (h i j)) :
    DOp g k Λ op (dI (fun _ _ => true) f) := by
  intro X ok pins s σ H x y v u Q I rx ry ⟨ι, μ, a, b, d, m, ra, rb, e, q⟩
  refine hr X pins s σ H x y v u Q I rx ry ?_
  unfold dI at e
  split at e
  · simp at e
    subst e
    cases ra; cases rb
    exact ⟨_, _, rfl, rfl, q ι H _ (.refl _ _) m (hf _ _ _ _ _ _)⟩
  · cases e
def dSub := dI (fun _ _ => true) fun i j => .int (i - j)
def mulOk (i j : Int) : Bool := (decide (-18446744073709551616 < i) && decide (i < 18446744073709551616)) || (decide (-18446744073709551616 < j) && decide (j < 18446744073709551616))
def dMul := dI mulOk fun i j => .int (i * j)
def divOk (i j : Int) : Bool := decide (0 < j) && decide (j < 1073741824)
def dDiv := dI divOk fun i j => .int (i / j)
def modOk (_ j : Int) : Bool := decide (0 < j)
def dMod := dI modOk fun i j => .int (i % j)
def powOk (i j : Int) : Bool := decide (0 ≤ j) && decide (j ≤ 1000) && decide (i.natAbs < 18446744073709551616)
def dPow := dI powOk fun i j => .int (i ^ j.toNat)
theorem dop_sub : DOp g k Λ (binaryOp .Sub) dSub := dop_I0 (h := fun i j => .int (i - j)) (fun _ => op_sub) fun _ _ _ _ _ _ => rfl
theorem dop_mul : DOp g k Λ (binaryOp .Mult) dMul := dop_I (P := CMul) (h := fun i j => .int (i * j)) (fun _ => op_mul) (fun i j h => by
  unfold mulOk at h
  simp only [Bool.or_eq_true, Bool.and_eq_true, decide_eq_true_eq] at h
  exact h) fun _ _ _ _ _ _ => rfl
theorem dop_div : DOp g k Λ (binaryOp .FloorDiv) dDiv := dop_I (P := CDiv) (h := fun i j => .int (i / j)) (fun _ => op_fdiv) (fun i j h => by
  unfold divOk at h
  simp only [Bool.and_eq_true, decide_eq_true_eq] at h
  exact h) fun _ _ _ _ _ _ => rfl
theorem dop_mod : DOp g k Λ (binaryOp .Mod) dMod := dop_I (P := fun _ j => 0 < j) (h := fun i j => .int (i % j)) (fun _ => op_mod) (fun i j h => by
  unfold modOk at h
  simp only [decide_eq_true_eq] at h
  exact h) fun _ _ _ _ _ _ => rfl
theorem dop_pow : DOp g k Λ (binaryOp .Pow) dPow := dop_I (P := CPow) (h := fun i j => .int (i ^ j.toNat)) (fun _ => op_pow) (fun i j h => by
  unfold powOk at h
  simp only [Bool.and_eq_true, decide_eq_true_eq] at h
  exact ⟨h.1.1, by omega, h.2⟩) fun _ _ _ _ _ _ => rfl
def dLt := dI (fun _ _ => true) fun i j => .bl (decide (i < j))
def dLe := dI (fun _ _ => true) fun i j => .bl (decide (i ≤ j))
def dGt := dI (fun _ _ => true) fun i j => .bl (decide (j < i))
def dGe := dI (fun _ _ => true) fun i j => .bl (decide (j ≤ i))
theorem dop_lt : DOp g k Λ (compareOp .Lt) dLt := dop_I0 (h := fun i j => .bl (decide (i < j))) (fun _ => op_lt) fun _ _ _ _ _ _ => rfl
theorem dop_le : DOp g k Λ (compareOp .LtE) dLe := dop_I0 (h := fun i j => .bl (decide (i ≤ j))) (fun _ => op_le) fun _ _ _ _ _ _ => rfl
theorem dop_gt : DOp g k Λ (compareOp .Gt) dGt := dop_I0 (h := fun i j => .bl (decide (j < i))) (fun _ => op_gt) fun _ _ _ _ _ _ => rfl
theorem dop_ge : DOp g k Λ (compareOp .GtE) dGe := dop_I0 (h := fun i j => .bl (decide (j ≤ i))) (fun _ => op_ge) fun _ _ _ _ _ _ => rfl
end
/-! ### == of data -/
mutual
def pd : D → Option PyData
  | .non => some .none
  | .bl b => some (.bool b)
  | .int i => some (.int i)
  | .str x => some (.str x)
  | .tup xs => match pds xs with
    | some ys => some (.tuple ys)
    | none => none
  | .lst xs => match pds xs with
    | some ys => some (.list ys)
    | none => none
  | _ => none
def pds : List D → Option (List PyData)
  | [] => some []
  | d :: ds => match pd d, pds ds with
    | some x, some xs => some (x :: xs)
    | _, _ => none
end
section
variable {K : PySem.W.Frag} {Λ : Lr} {ι : List Addr} {H : Hp}
mutual
theorem pd_dp : ∀ {d : D} {v : V} {p : PyData}, Rep K Λ ι H d v → pd d = some p → Dp K H v p
  | .non, _, _, h, e => by cases e; cases h; exact .non
  | .bl b, _, _, h, e => by cases e; cases h; exact .bl b
  | .int i, _, _, h, e => by cases e; cases h; exact .int i
  | .str x, _, _, h, e => by cases e; cases h; exact .str x
  | .tup xs, _, p, ⟨a, vs, h1, h2, h3⟩, e => by
    unfold pd at e
    split at e
    · rename_i ys q; cases e; subst h1; exact .tup h2.sq (pds_dp h3 q)
    · cases e
  | .lst xs, _, p, ⟨a, vs, h1, h2, h3⟩, e => by
    unfold pd at e
    split at e
    · rename_i ys q; cases e; subst h1; exact .lst (.inl h2.1) (pds_dp h3 q)
    · cases e
  | .dct _ _, _, _, _, e => by simp [pd] at e
  | .ref _, _, _, _, e => by simp [pd] at e
  | .lam _, _, _, _, e => by simp [pd] at e
  | .scr _, _, _, _, e => by simp [pd] at e
theorem pds_dp : ∀ {ds : List D} {vs : List V} {ps : List PyData}, Reps K Λ ι H ds vs → pds ds = some ps → DpAll K H vs ps
  | [], _, _, h, e => by cases (show _ = [] from h); simp [pds] at e; subst e; exact .nil
  | d :: ds, _, ps, ⟨v, r, h1, h2, h3⟩, e => by
    unfold pds at e
    split at e
    · rename_i x xs q1 q2; cases e; subst h1; exact .cons (pd_dp h2 q1) (pds_dp h3 q2)
    · cases e
end
end
def dEqB : D → D → Option Bool
  | .int i, .int j => some (i == j)
  | .str x, .str y => some (decide (x = y))
  | .bl a, .bl b => some (a == b)
  | a, b => match pd a, pd b with
    | some p, some q => if SeqAt.shaped p && SeqAt.shaped q then some (PyData.eqv p q) else none
    | _, _ => none
def dEq (_ : Sto) (a b : D) : Option D := match dEqB a b with
  | some r => some (.bl r)
  | none => none
def dNe (_ : Sto) (a b : D) : Option D := match dEqB a b with
  | some r => some (.bl (!r))
  | none => none
section
variable {g : Gb} {k : Nat} {Λ : Lr}
theorem eqB_rd {X : Cx} {ι : List Addr} {H : Hp} {a b : D} {x y : V} {r : Bool} (ok : XOk g k X) (ra : Rep g.K Λ ι H a x) (rb : Rep g.K Λ ι H b y) (e : dEqB a b = some r) :
    (scal x y = true ∧ decide (x = y) = r) ∨ ∃ d e, Dp X.K H x d ∧ Dp X.K H y e ∧ SeqAt.shaped d = true ∧ SeqAt.shaped e = true ∧ PyData.eqv d e = r := by
  unfold dEqB at e
  split at e
  · cases e; cases ra; cases rb; exact .inl ⟨rfl, dec_int⟩
  · cases e; cases ra; cases rb
    refine .inl ⟨rfl, ?_⟩
    rw [Bool.eq_iff_iff]; simp
  · cases e; cases ra; cases rb
    refine .inl ⟨rfl, ?_⟩
    rw [Bool.eq_iff_iff]; simp
  · split at e
    · rename_i p q h1 h2
      split at e
      · rename_i hs
        cases e
        simp only [Bool.and_eq_true] at hs
        exact .inr ⟨p, q, by rw [ok.K]; exact pd_dp ra h1, by rw [ok.K]; exact pd_dp rb h2, hs.1, hs.2, rfl⟩
      · cases e
    · cases e
theorem dop_eq : DOp g k Λ (compareOp .Eq) dEq := by
  intro X ok pins s σ H x y v u Q I rx ry ⟨ι, μ, a, b, d, m, ra, rb, e, q⟩
  unfold dEq at e
  split at e
  · rename_i r hr
    cases e
    rcases eqB_rd ok ra rb hr with ⟨h1, h2⟩ | ⟨p, p', h1, h2, h3, h4, h5⟩
    · exact op_eq pins s σ H x y v u Q I rx ry ⟨h1, q ι H _ (.refl _ _) m (by rw [h2]; rfl)⟩
    · exact op_eqD (by have := ok.room.units; exact this) pins s σ H x y v u Q I rx ry ⟨p, p', h1, h2, h3, h4, q ι H _ (.refl _ _) m (by rw [h5]; rfl)⟩
  · cases e
theorem dop_ne : DOp g k Λ (compareOp .NotEq) dNe := by
  intro X ok pins s σ H x y v u Q I rx ry ⟨ι, μ, a, b, d, m, ra, rb, e, q⟩
  unfold dNe at e
  split at e
  · rename_i r hr
    cases e
    rcases eqB_rd ok ra rb hr with ⟨h1, h2⟩ | ⟨p, p', h1, h2, h3, h4, h5⟩
    · exact op_ne pins s σ H x y v u Q I rx ry ⟨h1, q ι H _ (.refl _ _) m (by rw [h2]; rfl)⟩
    · exact op_neD (by have := ok.room.units; exact this) pins s σ H x y v u Q I rx ry ⟨p, p', h1, h2, h3, h4, q ι H _ (.refl _ _) m (by rw [h5]; rfl)⟩
  · cases e
end
/-! ### in -/
def flD : D → Bool
  | .non => true | .bl _ => true | .int _ => true | .str _ => true | _ => false
def eqF : D → D → Bool
  | .non, .non => true
  | .bl a, .bl b => a == b
  | .bl a, .int b => (if a then 1 else 0) == b
  | .int a, .bl b => a == (if b then 1 else 0)
  | .int a, .int b => a == b
  | .str a, .str b => a == b
  | _, _ => false
def inF (x : D) (xs : List D) : Bool := xs.any fun y => eqF y x
def sqD (μ : Sto) : D → Option (List D)
  | .tup xs => some xs
  | d => vw μ d
def dInB (μ : Sto) (x y : D) : Option Bool := match x, y with
  | .str s, .str z => match s.cps.toList with
    | [c] => some (decide (c ∈ z.cps.toList))
    | _ => none
  | x, y => match sqD μ y with
    | some ys => if flD x && ys.all flD then some (inF x ys) else none
    | none => none
def dIn (μ : Sto) (x y : D) : Option D := match dInB μ x y with
  | some r => some (.bl r)
  | none => none
def dNin (μ : Sto) (x y : D) : Option D := match dInB μ x y with
  | some r => some (.bl (!r))
  | none => none
section
variable {g : Gb} {k : Nat} {Λ : Lr} {ι : List Addr} {H : Hp} {μ : Sto}
theorem sq_rd (m : MR g Λ ι H μ) {d : D} {v : V} {ds : List D} (r : Rep g.K Λ ι H d v) (e : sqD μ d = some ds) : ∃ a vs, v = .ref a ∧ (SqL g.K H a vs ∨ SqT g.K H a vs) ∧ Reps g.K Λ ι H ds vs := by
  unfold sqD at e
  split at e
  · cases e
    obtain ⟨a, vs, h1, h2, h3⟩ := r
    exact ⟨a, vs, h1, .inr h2.sq, h3⟩
  · obtain ⟨a, vs, h1, h2, h3⟩ := vw_rd m r e
    exact ⟨a, vs, h1, .inl (.inl h2), h3⟩
theorem fl_rep {d : D} {v : V} (r : Rep g.K Λ ι H d v) (h : flD d = true) : flatV v = true := by
  cases d <;> first | (cases r; rfl) | (simp [flD] at h)
theorem eqF_rep {d e : D} {v u : V} (r : Rep g.K Λ ι H d v) (q : Rep g.K Λ ι H e u) (h : flD d = true) (h2 : flD e = true) : eqV v u = eqF d e := by
  cases d <;> first | (simp [flD] at h; done) | (cases r; cases e <;> first | (simp [flD] at h2; done) | (cases q; rfl))
theorem inF_rep {d : D} {v : V} (r : Rep g.K Λ ι H d v) (h : flD d = true) : ∀ {ds : List D} {vs : List V}, Reps g.K Λ ι H ds vs → ds.all flD = true → vs.all flatV = true ∧ inV v vs = inF d ds
  | [], _, q, _ => by cases (show _ = [] from q); exact ⟨rfl, rfl⟩
  | x :: xs, _, ⟨y, r', e, h1, h3⟩, ha => by
    subst e
    simp only [List.all_cons, Bool.and_eq_true] at ha
    obtain ⟨q1, q2⟩ := inF_rep r h h3 ha.2
    refine ⟨by simp [fl_rep h1 ha.1, q1], ?_⟩
    unfold inV inF at q2 ⊢
    rw [List.any_cons, List.any_cons, q2, eqF_rep h1 r ha.1 h]
theorem inB_rd {X : Cx} (ok : XOk g k X) (m : MR g Λ ι H μ) {a b : D} {x y : V} {r : Bool} (ra : Rep g.K Λ ι H a x) (rb : Rep g.K Λ ι H b y) (e : dInB μ a b = some r) :
    (∃ (c : Nat) (z : Str), x = .str ⟨#[c]⟩ ∧ y = .str z ∧ decide (c ∈ z.cps.toList) = r) ∨ ∃ p xs, y = .ref p ∧ (SqL X.K H p xs ∨ SqT X.K H p xs) ∧ flatV x = true ∧ xs.all flatV = true ∧ inV x xs = r := by
  unfold dInB at e
  split at e
  · rename_i s z
    split at e
    · rename_i c hc
      cases e; cases ra; cases rb
      refine .inl ⟨c, z, ?_, rfl, rfl⟩
      have : s = ⟨#[c]⟩ := by
        cases s with
        | mk cps =>
          have : cps = #[c] := by rw [← Array.toArray_toList (xs := cps), hc]
          rw [this]
      rw [this]
    · cases e
  · split at e
    · rename_i ys hy
      split at e
      · rename_i hf
        cases e
        simp only [Bool.and_eq_true] at hf
        obtain ⟨p, vs, h1, h2, h3⟩ := sq_rd m rb hy
        obtain ⟨q1, q2⟩ := inF_rep ra hf.1 h3 hf.2
        exact .inr ⟨p, vs, h1, by rw [ok.K]; exact h2, fl_rep ra hf.1, q1, q2⟩
      · cases e
    · cases e
theorem dop_in : DOp g k Λ (compareOp .In) dIn := by
  intro X ok pins s σ H x y v u Q I rx ry ⟨ι, μ, a, b, d, m, ra, rb, e, q⟩
  unfold dIn at e
  split at e
  · rename_i r hr
    cases e
    rcases inB_rd ok m ra rb hr with ⟨c, z, h1, h2, h3⟩ | ⟨p, xs, h1, h2, h3, h4, h5⟩
    · exact op_in_sign pins s σ H x y v u Q I rx ry ⟨c, z, h1, h2, q ι H _ (.refl _ _) m (by rw [h3]; rfl)⟩
    · exact op_in_seq pins s σ H x y v u Q I rx ry ⟨p, xs, h1, h2, h3, h4, q ι H _ (.refl _ _) m (by rw [h5]; rfl)⟩
  · cases e
theorem dop_nin : DOp g k Λ (compareOp .NotIn) dNin := by
  intro X ok pins s σ H x y v u Q I rx ry ⟨ι, μ, a, b, d, m, ra, rb, e, q⟩
  unfold dNin at e
  split at e
  · rename_i r hr
    cases e
    rcases inB_rd ok m ra rb hr with ⟨c, z, h1, h2, h3⟩ | ⟨p, xs, h1, h2, h3, h4, h5⟩
    · exact op_notIn_sign pins s σ H x y v u Q I rx ry ⟨c, z, h1, h2, q ι H _ (.refl _ _) m (by rw [h3]; rfl)⟩
    · exact op_notIn_seq pins s σ H x y v u Q I rx ry ⟨p, xs, h1, h2, h3, h4, q ι H _ (.refl _ _) m (by rw [h5]; rfl)⟩
  · cases e
end
end Mi

set_option Elab.async false
set_option linter.all false
set_option maxRecDepth 100000
set_option maxHeartbeats 4000000
namespace Mi
open PySem L2

@[simp] def rt {α : Type} (r : Option α) (μ : Sto) : Option (Out α) := match r with
  | some d => some (.ok d μ)
  | none => none
/-! ### the combinators -/
def bVar (i : Nat) : Cb D := fun ρ μ => match ρ[i]? with
  | some (some d) => some (.ok d μ)
  | _ => none
def bCon (d : D) : Cb D := fun _ μ => some (.ok d μ)
def bStuck {α : Type} : Cb α := fun _ _ => none
def bBin (o : Sto → D → D → Option D) (fa fb : Cb D) : Cb D := fun ρ μ => ob (fa ρ μ) fun x μ1 => ob (fb ρ μ1) fun y μ2 => rt (o μ2 x y) μ2
def bNeg (fa : Cb D) : Cb D := fun ρ μ => ob (fa ρ μ) fun x μ1 => match x with
  | .int i => some (.ok (.int (-i)) μ1)
  | _ => none
def bTst (f : Cb D) : Cb Bool := fun ρ μ => ob (f ρ μ) fun d μ1 => match d with
  | .bl b => some (.ok b μ1)
  | _ => none
def bChain (o1 o2 : Sto → D → D → Option D) (fa fb fc : Cb D) : Cb D := fun ρ μ => ob (fa ρ μ) fun x μ1 => ob (fb ρ μ1) fun y μ2 => match o1 μ2 x y with
  | some (.bl true) => ob (fc ρ μ2) fun z μ3 => rt (o2 μ3 y z) μ3
  | some (.bl false) => some (.ok (.bl false) μ2)
  | _ => none
def bAndT (fa fb : Cb Bool) : Cb Bool := fun ρ μ => ob (fa ρ μ) fun b μ1 => if b then fb ρ μ1 else some (.ok false μ1)
def bOrT (fa fb : Cb Bool) : Cb Bool := fun ρ μ => ob (fa ρ μ) fun b μ1 => if b then some (.ok true μ1) else fb ρ μ1
def bNotT (fa : Cb Bool) : Cb Bool := fun ρ μ => ob (fa ρ μ) fun b μ1 => some (.ok (!b) μ1)
def bAnd (fa fb : Cb D) : Cb D := fun ρ μ => ob (fa ρ μ) fun x μ1 => match x with
  | .bl true => fb ρ μ1
  | .bl false => some (.ok (.bl false) μ1)
  | _ => none
def bOr (fa fb : Cb D) : Cb D := fun ρ μ => ob (fa ρ μ) fun x μ1 => match x with
  | .bl true => some (.ok (.bl true) μ1)
  | .bl false => fb ρ μ1
  | _ => none
def bNot (fa : Cb D) : Cb D := fun ρ μ => ob (fa ρ μ) fun x μ1 => match x with
  | .bl b => some (.ok (.bl (!b)) μ1)
  | _ => none
def bIf (fc : Cb Bool) (fa fb : Cb D) : Cb D := fun ρ μ => ob (fc ρ μ) fun b μ1 => if b then fa ρ μ1 else fb ρ μ1
def bNil : Cb (List D) := fun _ μ => some (.ok [] μ)
def bCons (fa : Cb D) (fr : Cb (List D)) : Cb (List D) := fun ρ μ => ob (fa ρ μ) fun x μ1 => ob (fr ρ μ1) fun xs μ2 => some (.ok (x :: xs) μ2)
def bTup (f : Cb (List D)) : Cb D := fun ρ μ => ob (f ρ μ) fun xs μ1 => if xs.length ≤ 16777216 then some (.ok (.tup xs) μ1) else none
def bLst (f : Cb (List D)) : Cb D := fun ρ μ => ob (f ρ μ) fun xs μ1 => if xs.length ≤ 16777216 then some (.ok (.lst xs) μ1) else none
def bLstM (f : Cb (List D)) : Cb D := fun ρ μ => ob (f ρ μ) fun xs μ1 => if xs.length ≤ 16777216 ∧ lamfs xs = true then some (.ok (.ref μ1.length) (μ1 ++ [.lst xs])) else none
def dIx (μ : Sto) (x y : D) : Option D := match x, y with
  | .str z, .int i => if z.length ≤ 16777216 then (match atI z.cps.toList i with
    | some c => some (.str ⟨#[c]⟩)
    | none => none) else none
  | x, .int i => match sqD μ x with
    | some xs => atI xs i
    | none => none
  | _, _ => none
/-- truth of a value -/
def trD (μ : Sto) : D → Option Bool
  | .non => some false
  | .bl b => some b
  | .int i => some (i != 0)
  | .tup xs => some (!xs.isEmpty)
  | .str x => if x.length ≤ 16777216 then some ((x.length : Int) != 0) else none
  | d => match vw μ d with
    | some xs => some (!xs.isEmpty)
    | none => none
def bTru (f : Cb D) : Cb Bool := fun ρ μ => ob (f ρ μ) fun d μ1 => rt (trD μ1 d) μ1

section
variable {g : Gb} {k : Nat} {Λ : Lr} {X : Cx} {W : WX}
section
variable {ι : List Addr} {H : Hp} {σ : St} {ρ : En} {μ : Sto} {r : Out D} {ra : Out (List D)} {rb : Out Bool}
theorem Post.ext {ι' H'} {Q : VK} (p : Post g Λ W ι H σ r Q) (e : Ext ι H ι' H') : Post g Λ W ι' H' σ r Q := by
  cases r with
  | ok d' μ' => exact fun ι2 H2 v2 e2 => p ι2 H2 v2 (e.trans e2)
  | exc c μ' => exact fun ι2 H2 e2 => p ι2 H2 (e.trans e2)
theorem PostA.ext {ι' H'} {Q : List V → Hp → Prop} (p : PostA g Λ W ι H σ ra Q) (e : Ext ι H ι' H') : PostA g Λ W ι' H' σ ra Q := by
  cases ra with
  | ok d' μ' => exact fun ι2 H2 v2 e2 => p ι2 H2 v2 (e.trans e2)
  | exc c μ' => exact fun ι2 H2 e2 => p ι2 H2 (e.trans e2)
theorem PostT.ext {ι' H'} {Q : Bool → Hp → Prop} (p : PostT g Λ W ι H σ rb Q) (e : Ext ι H ι' H') : PostT g Λ W ι' H' σ rb Q := by
  cases rb with
  | ok d' μ' => exact fun ι2 H2 e2 => p ι2 H2 (e.trans e2)
  | exc c μ' => exact fun ι2 H2 e2 => p ι2 H2 (e.trans e2)
/-- the general step: a first part (an expression, arguments, a test), then the rest -/
theorem go_E {β : Type} {f : Cb D} {kk : D → Sto → Option (Out β)} {r : Out β} {R : VK} {X1 : Prop} (l : LR g Λ ι H σ ρ) (m : MR g Λ ι H μ) (h : ob (f ρ μ) kk = some r) (px : ∀ c μ1, r = .exc c μ1 → ∀ ι' H', Ext ι H ι' H' → MR g Λ ι' H' μ1 → W (.ref (g.cls c)) none σ H')
    (go : ∀ d μ1 ι1 H1 v, f ρ μ = some (.ok d μ1) → kk d μ1 = some r → Ext ι H ι1 H1 → MR g Λ ι1 H1 μ1 → LR g Λ ι1 H1 σ ρ → Rep g.K Λ ι1 H1 d v → R v H1) : rdE g Λ W f σ H R := by
  cases q : f ρ μ with
  | none => rw [q] at h; cases h
  | some o =>
    refine ⟨ι, ρ, μ, o, l, m, q, ?_⟩
    cases o with
    | ok d μ1 => rw [q] at h; exact fun ι1 H1 v e m1 r1 => go d μ1 ι1 H1 v q h e m1 (l.ext e) r1
    | exc c μ1 =>
      rw [q] at h
      exact px c μ1 (Option.some.inj (show some (Out.exc c μ1) = some r from h)).symm
theorem go_T {β : Type} {f : Cb Bool} {kk : Bool → Sto → Option (Out β)} {r : Out β} {R : Bool → Hp → Prop} (l : LR g Λ ι H σ ρ) (m : MR g Λ ι H μ) (h : ob (f ρ μ) kk = some r) (px : ∀ c μ1, r = .exc c μ1 → ∀ ι' H', Ext ι H ι' H' → MR g Λ ι' H' μ1 → W (.ref (g.cls c)) none σ H')
    (go : ∀ d μ1 ι1 H1, f ρ μ = some (.ok d μ1) → kk d μ1 = some r → Ext ι H ι1 H1 → MR g Λ ι1 H1 μ1 → LR g Λ ι1 H1 σ ρ → R d H1) : rdT g Λ W f σ H R := by
  cases q : f ρ μ with
  | none => rw [q] at h; cases h
  | some o =>
    refine ⟨ι, ρ, μ, o, l, m, q, ?_⟩
    cases o with
    | ok d μ1 => rw [q] at h; exact fun ι1 H1 e m1 => go d μ1 ι1 H1 q h e m1 (l.ext e)
    | exc c μ1 =>
      rw [q] at h
      exact px c μ1 (Option.some.inj (show some (Out.exc c μ1) = some r from h)).symm
theorem go_A {β : Type} {f : Cb (List D)} {kk : List D → Sto → Option (Out β)} {r : Out β} {R : List V → Hp → Prop} (l : LR g Λ ι H σ ρ) (m : MR g Λ ι H μ) (h : ob (f ρ μ) kk = some r) (px : ∀ c μ1, r = .exc c μ1 → ∀ ι' H', Ext ι H ι' H' → MR g Λ ι' H' μ1 → W (.ref (g.cls c)) none σ H')
    (go : ∀ ds μ1 ι1 H1 vs, f ρ μ = some (.ok ds μ1) → kk ds μ1 = some r → Ext ι H ι1 H1 → MR g Λ ι1 H1 μ1 → LR g Λ ι1 H1 σ ρ → Reps g.K Λ ι1 H1 ds vs → R vs H1) : rdA g Λ W f σ H R := by
  cases q : f ρ μ with
  | none => rw [q] at h; cases h
  | some o =>
    refine ⟨ι, ρ, μ, o, l, m, q, ?_⟩
    cases o with
    | ok d μ1 => rw [q] at h; exact fun ι1 H1 vs e m1 r1 => go d μ1 ι1 H1 vs q h e m1 (l.ext e) r1
    | exc c μ1 =>
      rw [q] at h
      exact px c μ1 (Option.some.inj (show some (Out.exc c μ1) = some r from h)).symm
theorem Post.px {Q : VK} (p : Post g Λ W ι H σ r Q) : ∀ c μ1, r = .exc c μ1 → ∀ ι' H', Ext ι H ι' H' → MR g Λ ι' H' μ1 → W (.ref (g.cls c)) none σ H' := fun c μ1 e => by subst e; exact p
theorem PostA.px {Q : List V → Hp → Prop} (p : PostA g Λ W ι H σ ra Q) : ∀ c μ1, ra = .exc c μ1 → ∀ ι' H', Ext ι H ι' H' → MR g Λ ι' H' μ1 → W (.ref (g.cls c)) none σ H' := fun c μ1 e => by subst e; exact p
theorem PostT.px {Q : Bool → Hp → Prop} (p : PostT g Λ W ι H σ rb Q) : ∀ c μ1, rb = .exc c μ1 → ∀ ι' H', Ext ι H ι' H' → MR g Λ ι' H' μ1 → W (.ref (g.cls c)) none σ H' := fun c μ1 e => by subst e; exact p
theorem rt_some {α : Type} {o : Option α} {r : Out α} (h : rt o μ = some r) : ∃ d, o = some d ∧ r = .ok d μ := by
  cases o with
  | none => cases h
  | some d => cases h; exact ⟨d, rfl, rfl⟩
end

theorem de_stuck {e : Expr} : DE g k Λ X W e bStuck := fun _ _ => ⟨fun _ _ _ _ _ _ ⟨_, _, _, _, _, _, e, _⟩ => by cases e⟩
theorem de_var (i : Nat) {x : Str} {pos : Pos} (hN : X.N[i]? = some x := by rfl) (hv : Vis X.env.scope x := by first | exact Or.inl rfl | exact Or.inr (Or.inl rfl) | exact Or.inr (Or.inr rfl)) (hd : (x == ("__debug__" : Str)) = false := by decide)
    (hcd : (x == ("__classdict__" : Str)) = false := by decide) : DE g k Λ X W (.Name x pos) (bVar i) := fun ok tk => PE.imp (pe_var hN hv hd hcd) fun σ H Q ⟨ι, ρ, μ, r, l, m, e, p⟩ => by
  unfold bVar at e
  split at e
  · rename_i d q
    cases e
    obtain ⟨v, h1, h2⟩ := l.at_ i d q
    exact ⟨v, h1, p ι H v (.refl _ _) m h2⟩
  · cases e
theorem rd_con {d : D} {v : V} {σ : St} {H : Hp} {Q : VK} (hr : ∀ ι H, Rep g.K Λ ι H d v) (h : rdE g Λ W (bCon d) σ H Q) : Q v H := by
  obtain ⟨ι, ρ, μ, r, l, m, e, p⟩ := h
  cases e
  exact p ι H v (.refl _ _) m (hr ι H)
theorem de_int {i : Int} {j pos} : DE g k Λ X W (.Constant (.int i) j pos) (bCon (.int i)) := fun _ _ => PE.imp pe_int fun _ _ _ h => rd_con (d := .int i) (fun _ _ => rfl) h
theorem de_bl {b : Bool} {j pos} : DE g k Λ X W (.Constant (.bool b) j pos) (bCon (.bl b)) := fun _ _ => PE.imp pe_bl fun _ _ _ h => rd_con (d := .bl b) (fun _ _ => rfl) h
theorem de_non {j pos} : DE g k Λ X W (.Constant .none j pos) (bCon .non) := fun _ _ => PE.imp pe_non fun _ _ _ h => rd_con (d := .non) (fun _ _ => rfl) h
theorem de_str {x : Str} {j pos} : DE g k Λ X W (.Constant (.str x) j pos) (bCon (.str x)) := fun _ _ => PE.imp pe_str fun _ _ _ h => rd_con (d := .str x) (fun _ _ => rfl) h
/-- a constant of the module -/
structure GC (g : Gb) (x : Str) (d : D) : Prop where
  ex : ∃ u v, g.mg x = some u ∧ RelV v u ∧ ∀ Λ ι H, Rep g.K Λ ι H d v
theorem de_glob {x : Str} {d : D} {pos : Pos} (c : GC g x d) (hg : Gl X x := by rfl) (hd : (x == ("__debug__" : Str)) = false := by decide) : DE g k Λ X W (.Name x pos) (bCon d) := fun ok _ => by
  obtain ⟨u, v, h1, h2, h3⟩ := c.ex
  exact PE.imp (pe_glob hg (by rw [ok.mg]; exact h1) h2 hd) fun _ _ _ h => rd_con (h3 Λ) h
variable {a b c : Expr} {fa fb fc : Cb D} {pos : Pos}
theorem rd_bin {o : Sto → D → D → Option D} {σ : St} {H : Hp} {Q : VK} {rr : R2} (hrr : ∀ x y H Q, (∃ ι μ a b d, MR g Λ ι H μ ∧ Rep g.K Λ ι H a x ∧ Rep g.K Λ ι H b y ∧ o μ a b = some d ∧ ∀ ι' H' v, Ext ι H ι' H' → MR g Λ ι' H' μ → Rep g.K Λ ι' H' d v → Q v H') → rr x y H Q)
    (h : rdE g Λ W (bBin o fa fb) σ H Q) : tOp rr (rdE g Λ W fa) (rdE g Λ W fb) σ H Q := by
  obtain ⟨ι, ρ, μ, r, l, m, e, p⟩ := h
  refine go_E (X1 := True) l m e p.px fun d μ1 ι1 H1 v e1 e2 x1 m1 l1 r1 => ?_
  refine go_E (X1 := True) l1 m1 e2 (p.ext x1).px fun d2 μ2 ι2 H2 v2 _ e3 x2 m2 l2 r2 => ?_
  obtain ⟨z, hz, rfl⟩ := rt_some e3
  exact hrr _ _ _ _ ⟨ι2, μ2, d, d2, z, m2, r1.ext x2, r2, hz, (p.ext x1).ext x2⟩
theorem de_bin {op : Operator} {o : Sto → D → D → Option D} (ho : DOp g k Λ (binaryOp op) o) (ha : DE g k Λ X W a fa) (hb : DE g k Λ X W b fb) : DE g k Λ X W (.BinOp a op b pos) (bBin o fa fb) := fun ok tk =>
  PE.imp (pe_op (ho X ok) (ha ok tk) (hb ok tk)) fun _ _ _ h => rd_bin (fun _ _ _ _ q => q) h
theorem de_cmp {op : CmpOp} {o : Sto → D → D → Option D} (ho : DOp g k Λ (compareOp op) o) (ha : DE g k Λ X W a fa) (hb : DE g k Λ X W b fb) (hm : behindInMarks op b = false := by with_unfolding_all rfl) : DE g k Λ X W (.Compare a [op] [b] pos) (bBin o fa fb) := fun ok tk =>
  PE.imp (pe_cmpR (ho X ok) (ha ok tk) (hb ok tk) hm) fun _ _ _ h => rd_bin (fun _ _ _ _ q => q) h
theorem rd_tst {f : Cb D} {t : TE} {σ : St} {H : Hp} {Q : Bool → Hp → Prop} (ht : ∀ σ H Q, rdE g Λ W f σ H Q → t σ H Q) (h : rdT g Λ W (bTst f) σ H Q) : tTest t σ H Q := by
  obtain ⟨ι, ρ, μ, r, l, m, e, p⟩ := h
  refine ht _ _ _ (go_E (X1 := True) l m e p.px fun d μ1 ι1 H1 v e1 e2 x1 m1 l1 r1 => ?_)
  split at e2
  · rename_i z
    cases e2
    cases r1
    exact ⟨z, rfl, p ι1 H1 x1 m1⟩
  · cases e2
theorem dt_cmp {op : CmpOp} {o : Sto → D → D → Option D} (ho : DOp g k Λ (compareOp op) o) (ha : DE g k Λ X W a fa) (hb : DE g k Λ X W b fb) (hm : behindInMarks op b = false := by with_unfolding_all rfl) : DT g k Λ X W (.Compare a [op] [b] pos) (bTst (bBin o fa fb)) := fun ok tk =>
  PT.imp (pt_cmpR (ho X ok) (ha ok tk) (hb ok tk) hm) fun _ _ _ h => rd_tst (fun _ _ _ h => rd_bin (fun _ _ _ _ q => q) h) h
def rOp (g : Gb) (Λ : Lr) (o : Sto → D → D → Option D) : R2 := fun x y H Q => ∃ ι μ a b d, MR g Λ ι H μ ∧ Rep g.K Λ ι H a x ∧ Rep g.K Λ ι H b y ∧ o μ a b = some d ∧ ∀ ι' H' v, Ext ι H ι' H' → MR g Λ ι' H' μ → Rep g.K Λ ι' H' d v → Q v H'
theorem rd_chain {o1 o2 : Sto → D → D → Option D} {σ : St} {H : Hp} {Q : VK} (h : rdE g Λ W (bChain o1 o2 fa fb fc) σ H Q) : tChain (rOp g Λ o1) (rOp g Λ o2) (rdE g Λ W fa) (rdE g Λ W fb) (rdE g Λ W fc) σ H Q := by
  obtain ⟨ι, ρ, μ, r, l, m, e, p⟩ := h
  refine go_E (X1 := True) l m e p.px fun d μ1 ι1 H1 v e1 e2 x1 m1 l1 r1 => ?_
  refine go_E (X1 := True) l1 m1 e2 (p.ext x1).px fun d2 μ2 ι2 H2 v2 _ e3 x2 m2 l2 r2 => ?_
  have p2 := (p.ext x1).ext x2
  split at e3
  · rename_i hz
    refine ⟨ι2, μ2, d, d2, .bl true, m2, r1.ext x2, r2, hz, fun ι3 H3 z x3 m3 r3 => ?_⟩
    cases r3
    refine ⟨true, rfl, ?_⟩
    refine go_E (X1 := True) (l2.ext x3) m3 e3 (p2.ext x3).px fun d4 μ4 ι4 H4 v4 _ e4 x4 m4 l4 r4 => ?_
    obtain ⟨z, hz, rfl⟩ := rt_some e4
    exact ⟨ι4, μ4, d2, d4, z, m4, (r2.ext x3).ext x4, r4, hz, (p2.ext x3).ext x4⟩
  · rename_i hz
    refine ⟨ι2, μ2, d, d2, .bl false, m2, r1.ext x2, r2, hz, fun ι3 H3 z x3 m3 r3 => ?_⟩
    cases r3
    cases e3
    exact ⟨false, rfl, p2 ι3 H3 (.bl false) x3 m3 rfl⟩
  · cases e3
theorem de_chain {op op' : CmpOp} {o1 o2 : Sto → D → D → Option D} (h1 : DOp g k Λ (compareOp op) o1) (h2 : DOp g k Λ (compareOp op') o2) (ha : DE g k Λ X W a fa) (hb : DE g k Λ X W b fb) (hc : DE g k Λ X W c fc) (hm : lastMarks [op, op'] [b, c] = false := by with_unfolding_all rfl) :
    DE g k Λ X W (.Compare a [op, op'] [b, c] pos) (bChain o1 o2 fa fb fc) := fun ok tk => PE.imp (pe_chain (h1 X ok) (h2 X ok) (ha ok tk) (hb ok tk) (hc ok tk) hm) fun _ _ _ h => rd_chain h
theorem dt_chain {op op' : CmpOp} {o1 o2 : Sto → D → D → Option D} (h1 : DOp g k Λ (compareOp op) o1) (h2 : DOp g k Λ (compareOp op') o2) (ha : DE g k Λ X W a fa) (hb : DE g k Λ X W b fb) (hc : DE g k Λ X W c fc) (hm : lastMarks [op, op'] [b, c] = false := by with_unfolding_all rfl) :
    DT g k Λ X W (.Compare a [op, op'] [b, c] pos) (bTst (bChain o1 o2 fa fb fc)) := fun ok tk => PT.imp (pt_chain (h1 X ok) (h2 X ok) (ha ok tk) (hb ok tk) (hc ok tk) hm) fun _ _ _ h => rd_tst (fun _ _ _ h => rd_chain h) h
/-! tests -/
def DW (g : Gb) (k : Nat) (Λ : Lr) (X : Cx) (W : WX) (e : Expr) (f : Cb Bool) : Prop := XOk g k X → Takes X W → PW X e (rdT g Λ W f)
theorem PW.imp {X : Cx} {e : Expr} {t u : TT} (h : PW X e t) (i : ∀ σ H Q, u σ H Q → t σ H Q) : PW X e u := ⟨fun whole pins s σ H Q I q => h.run whole pins s σ H Q I (i σ H Q q)⟩
variable {ta tb : Cb Bool} {rest : List Expr}
theorem dt_w {e : Expr} (h : DW g k Λ X W e ta) : DT g k Λ X W e ta := fun ok tk => (h ok tk).pt
theorem dw_and1 (ha : DT g k Λ X W a ta) : DW g k Λ X W (.BoolOp .And [a] pos) ta := fun ok tk => pw_and1 (ha ok tk)
theorem dw_or1 (ha : DT g k Λ X W a ta) : DW g k Λ X W (.BoolOp .Or [a] pos) ta := fun ok tk => pw_or1 (ha ok tk)
theorem dw_and (ha : DT g k Λ X W a ta) (hb : DW g k Λ X W (.BoolOp .And (b :: rest) pos) tb) : DW g k Λ X W (.BoolOp .And (a :: b :: rest) pos) (bAndT ta tb) := fun ok tk =>
  PW.imp (pw_and (ha ok tk) (hb ok tk)) fun σ H Q ⟨ι, ρ, μ, r, l, m, e, p⟩ => go_T l m e p.px fun d μ1 ι1 H1 e1 e2 x1 m1 l1 => by
    cases d with
    | true => exact ⟨ι1, ρ, μ1, r, l1, m1, e2, p.ext x1⟩
    | false => cases e2; exact p ι1 H1 x1 m1
theorem dw_or (ha : DT g k Λ X W a ta) (hb : DW g k Λ X W (.BoolOp .Or (b :: rest) pos) tb) : DW g k Λ X W (.BoolOp .Or (a :: b :: rest) pos) (bOrT ta tb) := fun ok tk =>
  PW.imp (pw_or (ha ok tk) (hb ok tk)) fun σ H Q ⟨ι, ρ, μ, r, l, m, e, p⟩ => go_T l m e p.px fun d μ1 ι1 H1 e1 e2 x1 m1 l1 => by
    cases d with
    | false => exact ⟨ι1, ρ, μ1, r, l1, m1, e2, p.ext x1⟩
    | true => cases e2; exact p ι1 H1 x1 m1
theorem dt_not (ha : DT g k Λ X W a ta) : DT g k Λ X W (.UnaryOp .Not a pos) (bNotT ta) := fun ok tk => PT.imp (pt_not (ha ok tk)) fun σ H Q ⟨ι, ρ, μ, r, l, m, e, p⟩ => go_T l m e p.px fun d μ1 ι1 H1 e1 e2 x1 m1 l1 => by
  cases e2; exact p ι1 H1 x1 m1
theorem tr_rd {ι : List Addr} {H : Hp} {μ : Sto} (m : MR g Λ ι H μ) {d : D} {v : V} {t : Bool} (r : Rep g.K Λ ι H d v) (e : trD μ d = some t) : TruV g.K v H t := by
  unfold trD at e
  split at e
  · cases e; cases r; rfl
  · cases e; cases r; rfl
  · cases e; cases r; rfl
  · cases e
    obtain ⟨a, vs, rfl, h2, h3⟩ := r
    refine .inr (.inl ⟨vs, h2.sq, ?_⟩)
    have := h3.len
    cases vs <;> simp at this <;> simp [this]
    rename_i xs _ _
    cases xs <;> simp at this ⊢
  · split at e
    · cases e; cases r; exact ⟨szl_le ‹_›, rfl⟩
    · cases e
  · split at e
    · rename_i xs h
      cases e
      obtain ⟨a, vs, rfl, h2, h3⟩ := vw_rd m r h
      refine .inl ⟨vs, .inl h2, ?_⟩
      have := h3.len
      cases vs <;> simp at this <;> simp [this]
      cases xs <;> simp at this ⊢
    · cases e
theorem dt_tru {f : Cb D} (ha : DE g k Λ X W a f) (he : ∀ whole, isTrue a X.env whole = (do let v ← whole; standAt a.pos; holding [v] (truthy v)) := by intro _; rfl) : DT g k Λ X W a (bTru f) := fun ok tk =>
  PT.imp (pt_truth (ha ok tk) he) fun σ H Q ⟨ι, ρ, μ, r, l, m, e, p⟩ => go_E (X1 := True) l m e p.px fun d μ1 ι1 H1 v e1 e2 x1 m1 l1 r1 => by
    obtain ⟨z, hz, rfl⟩ := rt_some e2
    exact ⟨z, by rw [ok.K]; exact tr_rd m1 r1 hz, p ι1 H1 x1 m1⟩
/-! values -/
theorem de_one {op : BoolOp} (h : DE g k Λ X W a fa) : DE g k Λ X W (.BoolOp op [a] pos) fa := fun ok tk => pe_one (h ok tk)
theorem de_and (ha : DE g k Λ X W a fa) (hb : DE g k Λ X W (.BoolOp .And (b :: rest) pos) fb) : DE g k Λ X W (.BoolOp .And (a :: b :: rest) pos) (bAnd fa fb) := fun ok tk =>
  PE.imp (pe_and (ha ok tk) (hb ok tk)) fun σ H Q ⟨ι, ρ, μ, r, l, m, e, p⟩ => go_E (X1 := True) l m e p.px fun d μ1 ι1 H1 v e1 e2 x1 m1 l1 r1 => by
    split at e2
    · cases r1; exact ⟨true, rfl, ⟨ι1, ρ, μ1, r, l1, m1, e2, p.ext x1⟩⟩
    · cases r1; cases e2; exact ⟨false, rfl, p ι1 H1 (.bl false) x1 m1 rfl⟩
    · cases e2
theorem de_or (ha : DE g k Λ X W a fa) (hb : DE g k Λ X W (.BoolOp .Or (b :: rest) pos) fb) : DE g k Λ X W (.BoolOp .Or (a :: b :: rest) pos) (bOr fa fb) := fun ok tk =>
  PE.imp (pe_or (ha ok tk) (hb ok tk)) fun σ H Q ⟨ι, ρ, μ, r, l, m, e, p⟩ => go_E (X1 := True) l m e p.px fun d μ1 ι1 H1 v e1 e2 x1 m1 l1 r1 => by
    split at e2
    · cases r1; cases e2; exact ⟨true, rfl, p ι1 H1 (.bl true) x1 m1 rfl⟩
    · cases r1; exact ⟨false, rfl, ⟨ι1, ρ, μ1, r, l1, m1, e2, p.ext x1⟩⟩
    · cases e2
theorem de_not (ha : DE g k Λ X W a fa) : DE g k Λ X W (.UnaryOp .Not a pos) (bNot fa) := fun ok tk =>
  PE.imp (pe_not (ha ok tk)) fun σ H Q ⟨ι, ρ, μ, r, l, m, e, p⟩ => go_E (X1 := True) l m e p.px fun d μ1 ι1 H1 v e1 e2 x1 m1 l1 r1 => by
    split at e2
    · rename_i z
      cases r1; cases e2; exact ⟨z, rfl, p ι1 H1 _ x1 m1 rfl⟩
    · cases e2
theorem de_neg (ha : DE g k Λ X W a fa) : DE g k Λ X W (.UnaryOp .USub a pos) (bNeg fa) := fun ok tk =>
  PE.imp (pe_un un_neg (ha ok tk)) fun σ H Q ⟨ι, ρ, μ, r, l, m, e, p⟩ => go_E (X1 := True) l m e p.px fun d μ1 ι1 H1 v e1 e2 x1 m1 l1 r1 => by
    split at e2
    · rename_i z
      cases r1; cases e2; exact ⟨z, rfl, p ι1 H1 _ x1 m1 rfl⟩
    · cases e2
theorem de_if (hc : DT g k Λ X W c ta) (ha : DE g k Λ X W a fa) (hb : DE g k Λ X W b fb) : DE g k Λ X W (.IfExp c a b pos) (bIf ta fa fb) := fun ok tk =>
  PE.imp (pe_ifExp (hc ok tk) (ha ok tk) (hb ok tk)) fun σ H Q ⟨ι, ρ, μ, r, l, m, e, p⟩ => go_T l m e p.px fun d μ1 ι1 H1 e1 e2 x1 m1 l1 => by
    cases d with
    | true => exact ⟨ι1, ρ, μ1, r, l1, m1, e2, p.ext x1⟩
    | false => exact ⟨ι1, ρ, μ1, r, l1, m1, e2, p.ext x1⟩
/-! arguments, displays -/
variable {es : List Expr} {fs : Cb (List D)}
theorem da_nil : DA g k Λ X W [] bNil := fun ok tk => PA.imp pa_nil fun σ H Q ⟨ι, ρ, μ, r, l, m, e, p⟩ => by cases e; exact p ι H [] (.refl _ _) m rfl
theorem da_cons (ha : DE g k Λ X W a fa) (hr : DA g k Λ X W es fs) (hs : starEach (a :: es) X.env = (false, eval a X.env) :: starEach es X.env := by rfl) : DA g k Λ X W (a :: es) (bCons fa fs) := fun ok tk =>
  PA.imp (pa_cons (ha ok tk) (hr ok tk) hs) fun σ H Q ⟨ι, ρ, μ, r, l, m, e, p⟩ => go_E (X1 := True) l m e p.px fun d μ1 ι1 H1 v e1 e2 x1 m1 l1 r1 =>
    go_A l1 m1 e2 (p.ext x1).px fun ds μ2 ι2 H2 vs _ e3 x2 m2 l2 r2 => by
      cases e3
      exact p ι2 H2 (v :: vs) (x1.trans x2) m2 ⟨v, vs, rfl, r1.ext x2, r2⟩
theorem de_tup {kk : Nat} (h : DA g k Λ X W es fs) : DE g k Λ X W (.Tuple es kk pos) (bTup fs) := fun ok tk =>
  PE.imp (pe_tup (h ok tk)) fun σ H Q ⟨ι, ρ, μ, r, l, m, e, p⟩ => go_A l m e p.px fun ds μ2 ι2 H2 vs _ e3 x2 m2 l2 r2 => by
    split at e3
    · rename_i hz
      cases e3
      refine ⟨szl_le (by rw [← r2.len]; exact hz), fun q hq => ?_⟩
      obtain ⟨y1, y2, y3⟩ := new_tup m2 hq r2
      exact p _ _ _ (x2.trans y1) y2 y3
    · cases e3
theorem de_lst (h : DA g k Λ X W es fs) : DE g k Λ X W (.List es pos) (bLst fs) := fun ok tk =>
  PE.imp (pe_lst (h ok tk)) fun σ H Q ⟨ι, ρ, μ, r, l, m, e, p⟩ => go_A l m e p.px fun ds μ2 ι2 H2 vs _ e3 x2 m2 l2 r2 => by
    split at e3
    · rename_i hz
      cases e3
      refine ⟨szl_le (by rw [← r2.len]; exact hz), fun q hq => ?_⟩
      obtain ⟨y1, y2, y3⟩ := new_lst m2 hq r2
      exact p _ _ _ (x2.trans y1) y2 y3
    · cases e3
theorem de_lstM (h : DA g k Λ X W es fs) : DE g k Λ X W (.List es pos) (bLstM fs) := fun ok tk =>
  PE.imp (pe_lst (h ok tk)) fun σ H Q ⟨ι, ρ, μ, r, l, m, e, p⟩ => go_A l m e p.px fun ds μ2 ι2 H2 vs _ e3 x2 m2 l2 r2 => by
    split at e3
    · rename_i hz
      cases e3
      refine ⟨szl_le (by rw [← r2.len]; exact hz.1), fun q hq => ?_⟩
      obtain ⟨y1, y2, y3⟩ := new_mut m2 hq hz.2 r2
      exact p _ _ _ (x2.trans y1) y2 y3
    · cases e3
theorem atI_rep {ι : List Addr} {H : Hp} {ds : List D} {vs : List V} {i : Int} {d : D} (r : Reps g.K Λ ι H ds vs) (e : atI ds i = some d) : ∃ v, atI vs i = some v ∧ Rep g.K Λ ι H d v := by
  unfold atI at e ⊢
  rw [← r.len]
  cases q : ixN ds.length i with
  | none => rw [q] at e; cases e
  | some j =>
    rw [q] at e
    exact r.get e
theorem de_ix (ha : DE g k Λ X W a fa) (hb : DE g k Λ X W b fb) (hs : PlainIx b := by intro _ _; rfl) : DE g k Λ X W (.Subscript a b pos) (bBin dIx fa fb) := fun ok tk =>
  PE.imp (pe_ix ix_seq (ha ok tk) (hb ok tk) hs) fun _ _ _ h => rd_bin (fun x y H Q ⟨ι, μ, a, b, d, m, ra, rb, e, q⟩ => by
    unfold dIx at e
    split at e
    · rename_i z i
      split at e
      · rename_i hz
        split at e
        · rename_i c hc
          cases e; cases ra; cases rb
          exact .inr (.inr ⟨z, i, c, rfl, rfl, szl_le hz, hc, q ι H _ (.refl _ _) m rfl⟩)
        · cases e
      · cases e
    · rename_i i _
      split at e
      · rename_i xs hx
        cases rb
        obtain ⟨p, vs, h1, h2, h3⟩ := sq_rd m ra hx
        obtain ⟨v, h4, h5⟩ := atI_rep h3 e
        rcases h2 with h2 | h2
        · exact .inl ⟨p, vs, i, v, h1, rfl, by rw [ok.K]; exact h2, h4, q ι H _ (.refl _ _) m h5⟩
        · exact .inr (.inl ⟨p, vs, i, v, h1, rfl, by rw [ok.K]; exact h2, h4, q ι H _ (.refl _ _) m h5⟩)
      · cases e
    · cases e) h
end
end Mi

set_option Elab.async false
set_option linter.all false
set_option maxRecDepth 100000
set_option maxHeartbeats 4000000
namespace Mi
open PySem L2

/-! ### functions -/
abbrev FnS := List D → Sto → Option (Out D)
def bCallP (F : FnS) (fs : Cb (List D)) : Cb D := fun ρ μ => ob (fs ρ μ) fun ds μ1 => if purs ds = true then (match F ds [] with
  | some (.ok d _) => if pur d = true then some (.ok d μ1) else none
  | some (.exc c _) => some (.exc c μ1)
  | none => none) else none
def bCallM (F : FnS) (fs : Cb (List D)) : Cb D := fun ρ μ => ob (fs ρ μ) fun ds μ1 => if lamfs ds = true then F ds μ1 else none
def bCall0 (F : FnS) : Cb D := fun _ μ => match F [] [] with
  | some (.ok d _) => if pur d = true then some (.ok d μ) else none
  | _ => none
/-- the promise of a def whose meaning is F -/
def spM (g : Gb) (n : Nat) (F : FnS) : Sp := fun vs H Q E => vs.length = n ∧ ∃ (Λ : Lr) (ι : List Addr) (ds : List D) (μ : Sto) (r : Out D), MR g Λ ι H μ ∧ Reps g.K Λ.pure ι H ds vs ∧ F ds μ = some r ∧
  match r with
  | .ok d μ' => ∀ ι' H' v, Ext ι H ι' H' → MR g Λ ι' H' μ' → Rep g.K Λ.pure ι' H' d v → Q v H'
  | .exc c μ' => ∀ ι' H', Ext ι H ι' H' → MR g Λ ι' H' μ' → E (.ref (g.cls c)) none H'
structure Fn (g : Gb) (k : Nat) (x : Str) (n : Nat) (F : FnS) : Prop where
  ex : ∃ (f : Addr) (fd : FuncData) (ps : List Str), g.mg x = some (.ref f) ∧ PySem.W.keepIn g.K (.ref f) = true ∧ Binds g.K fd ps [] ∧ FnOk g.P g.w g.K g.mg g.base (L2.CX g.P g.w) k f fd ps (spM g n F)
mutual
theorem pur_lamf : ∀ {d : D}, pur d = true → lamf d = true
  | .non, _ => rfl
  | .bl _, _ => rfl
  | .int _, _ => rfl
  | .str _, _ => rfl
  | .tup _, h => purs_lamfs (show purs _ = true from h)
  | .lst _, h => purs_lamfs (show purs _ = true from h)
  | .dct _ _, h => purs_lamfs (show purs _ = true from h)
  | .ref _, _ => rfl
  | .lam _, h => by simp [pur] at h
  | .scr _, _ => rfl
theorem purs_lamfs : ∀ {ds : List D}, purs ds = true → lamfs ds = true
  | [], _ => rfl
  | d :: ds, h => by
    simp only [purs, Bool.and_eq_true] at h
    simp only [lamfs, Bool.and_eq_true]
    exact ⟨pur_lamf h.1, purs_lamfs h.2⟩
end
section
variable {g : Gb} {k j : Nat} {Λ : Lr} {X : Cx} {W : WX} {ι : List Addr} {H : Hp} {μ : Sto}
/-- another frame of the same store -/
theorem MR.fr {Λ' : Lr} (m : MR g Λ ι H μ) (h : Λ'.av = Λ.av) : MR g Λ' ι H μ := by
  have e : Λ'.pure = Λ.pure := by
    unfold Lr.pure
    rw [h]
  refine ⟨m.len, m.nd, fun n so q => ?_, m.tabs, by rw [h]; exact m.avs⟩
  obtain ⟨a, h1, h2⟩ := m.ob n so q
  refine ⟨a, h1, ?_⟩
  cases so with
  | lst xs => obtain ⟨vs, h3, h4⟩ := h2; exact ⟨vs, h3, by rw [e]; exact h4⟩
  | dct ks xs => obtain ⟨vs, h3, h5, h4⟩ := h2; exact ⟨vs, h3, h5, by rw [e]; exact h4⟩
  | ins c fs xs => obtain ⟨dx, vs, h3, h4, h5, h6, h7⟩ := h2; exact ⟨dx, vs, h3, by rw [h]; exact h4, h5, h6, by rw [e]; exact h7⟩
/-- a frame with a store of its own: the caller's objects are to be left alone -/
abbrev Lr.below (Λ : Lr) (ι : List Addr) : Lr := ⟨fun _ _ _ _ _ => False, Λ.av ++ ι⟩
theorem MR.below (m : MR g Λ ι H μ) : MR g (Λ.below ι) [] H [] := ⟨rfl, .nil, fun n so q => by simp at q, m.tabs, fun a ha => by
  rcases List.mem_append.mp ha with z | z
  · exact m.avs a z
  · rcases m.mem z with ⟨_, e⟩ | ⟨_, e⟩ | ⟨_, _, _, e⟩ <;> exact fun n => n.no e (by intro ps z; cases z)⟩
theorem Ext.below {ι' : List Addr} {H' : Hp} (e : Ext [] H ι' H') : Ext ι H ι H' := ⟨⟨[], by simp, by simp⟩, fun a o h1 h2 _ => e.keep a o h1 h2 (by simp), e.nt⟩
theorem ObjR.ext' {ι' : List Addr} {H' : Hp} (e : Ext ι H ι' H') {so : SO} {a : Addr} (hk : ∀ o, H a = some o → (∀ ps, o ≠ .tbl ps) → H' a = some o) (h : ObjR g Λ ι H so a) : ObjR g Λ ι' H' so a := by
  cases so with
  | lst xs => obtain ⟨vs, h3, h4⟩ := h; exact ⟨vs, hk _ h3 (by intro ps z; cases z), Reps.ext e xs h4⟩
  | dct ks xs => obtain ⟨vs, h3, h5, h4⟩ := h; exact ⟨vs, hk _ h3 (by intro ps z; cases z), h5, Reps.ext e xs h4⟩
  | ins c fs xs => obtain ⟨dx, vs, h3, h4, h5, h6, h7⟩ := h; exact ⟨dx, vs, hk _ h3 (by intro ps z; cases z), ⟨e.notin h5 (by intro ps z; cases z) h4.1, h4.2⟩, e.keep _ _ h5 (by intro ps z; cases z) h4.1, h6, Reps.ext e xs h7⟩
theorem MR.above {ι' : List Addr} {H' : Hp} {Λ' : Lr} {μ' : Sto} (m : MR g Λ ι H μ) (e : Ext [] H ι' H') (m' : MR g Λ' ι' H' μ') : MR g Λ ι H' μ := ⟨m.len, m.nd, fun n so q => by
  obtain ⟨a, h1, h2⟩ := m.ob n so q
  exact ⟨a, h1, h2.ext' e.below fun o h3 h4 => e.keep a o h3 h4 (by simp)⟩, m'.tabs, fun a ha h => m.avs a ha (e.nt a h)⟩
theorem Fn.run (F : Fn g j x n Fs) (hk : j ≤ k) (ok : XOk g k X) : ∃ (f : Addr) (fd : FuncData) (ps : List Str), X.mg x = some (.ref f) ∧ PySem.W.keepIn X.K (.ref f) = true ∧ Binds X.K fd ps [] ∧ FnOk X.prog X.w X.K X.mg X.base (L2.CX X.prog X.w) j f fd ps (spM g n Fs) := by
  obtain ⟨f, fd, ps, h1, h2, h3, h4⟩ := F.ex
  exact ⟨f, fd, ps, by rw [ok.mg]; exact h1, by rw [ok.K]; exact h2, by rw [ok.K]; exact h3, by rw [ok.P, ok.w, ok.K, ok.mg, ok.base]; exact h4⟩
variable {a : Expr} {es : List Expr} {fs : Cb (List D)} {p pos : Pos} {x : Str} {n : Nat} {Fs : FnS}
/-- the callee's promise from a pure meaning -/
theorem sp_pure {ds : List D} {vs : List V} {Q : VK} {E : XK} {r : Out D} (m : MR g Λ ι H μ) (r1 : Reps g.K Λ ι H ds vs) (hn : vs.length = n) (hp : purs ds = true) (hF : Fs ds [] = some r)
    (hq : match r with
      | .ok d _ => pur d = true ∧ ∀ H' v, Ext ι H ι H' → MR g Λ ι H' μ → Rep g.K Λ ι H' d v → Q v H'
      | .exc c _ => ∀ H', Ext ι H ι H' → MR g Λ ι H' μ → E (.ref (g.cls c)) none H') : spM g n Fs vs H Q E := by
  refine ⟨hn, Λ.below ι, [], ds, [], r, m.below, ?_, hF, ?_⟩
  · refine Reps.pur (Λ := Λ) (ι := ι) (fun a h1 h2 => ⟨by simp, fun z => ?_⟩) ds hp r1
    rcases List.mem_append.mp z with z | z
    · exact h2 z
    · exact h1 z
  · cases r with
    | ok d μ' =>
      intro ι' H' v e m' rv
      exact hq.2 H' v e.below (m.above e m') (Rep.pur (fun a h1 h2 => ⟨fun z => h2 (List.mem_append_right _ z), fun z => h2 (List.mem_append_left _ z)⟩) d hq.1 rv)
    | exc c μ' =>
      intro ι' H' e m'
      exact hq H' e.below (m.above e m')
theorem da_len {f : Cb (List D)} : True := trivial
theorem de_callP (F : Fn g j x n Fs) (hk : j ≤ k) (hn : (a :: es).length = n := by rfl) (ha : DA g k Λ X W (a :: es) fs) (hg : Gl X x := by rfl) (hdb : (x == ("__debug__" : Str)) = false := by decide) (he : starEach (a :: es) X.env = (false, eval a X.env) :: starEach es X.env := by rfl)
    (hpl : (backTo pos (starEach es X.env)).any (·.1) = false := by rfl) (hlen : ∀ ρ μ ds μ1, fs ρ μ = some (.ok ds μ1) → ds.length = n) : DE g k Λ X W (.Call (.Name x p) (a :: es) [] pos) (bCallP Fs fs) := fun ok tk => by
  obtain ⟨f, fd, ps, h1, h2, h3, h4⟩ := F.run hk ok
  refine PE.imp (pe_callSD (E := WE W) h4 (ok.room.mono hk) hg h1 h2 h3 .nil (fun σ => passAt tk σ) (ha ok tk) hdb he hpl) fun σ H Q ⟨ι, ρ, μ, r, l, m, e, p⟩ => go_A l m e p.px fun ds μ2 ι2 H2 vs e1 e3 x2 m2 l2 r2 => ?_
  have p2 := p.ext x2
  have hv : (vs ++ []).length = n := by rw [List.append_nil, ← r2.len]; exact hlen _ _ _ _ e1
  rw [List.append_nil] at hv ⊢
  split at e3
  · rename_i hp
    split at e3
    · rename_i d μ' hF
      split at e3
      · rename_i hd
        cases e3
        exact sp_pure m2 r2 hv hp hF ⟨hd, fun H' v e m' rv => p2 ι2 H' v e m' rv⟩
      · cases e3
    · rename_i c μ' hF
      cases e3
      exact sp_pure m2 r2 hv hp hF fun H' e m' => p2 ι2 H' e m'
    · cases e3
  · cases e3
theorem de_callM (F : Fn g j x n Fs) (hk : j ≤ k) (hn : (a :: es).length = n := by rfl) (ha : DA g k Λ X W (a :: es) fs) (hg : Gl X x := by rfl) (hdb : (x == ("__debug__" : Str)) = false := by decide) (he : starEach (a :: es) X.env = (false, eval a X.env) :: starEach es X.env := by rfl)
    (hpl : (backTo pos (starEach es X.env)).any (·.1) = false := by rfl) (hlen : ∀ ρ μ ds μ1, fs ρ μ = some (.ok ds μ1) → ds.length = n) : DE g k Λ X W (.Call (.Name x p) (a :: es) [] pos) (bCallM Fs fs) := fun ok tk => by
  obtain ⟨f, fd, ps, h1, h2, h3, h4⟩ := F.run hk ok
  refine PE.imp (pe_callSD (E := WE W) h4 (ok.room.mono hk) hg h1 h2 h3 .nil (fun σ => passAt tk σ) (ha ok tk) hdb he hpl) fun σ H Q ⟨ι, ρ, μ, r, l, m, e, p⟩ => go_A l m e p.px fun ds μ2 ι2 H2 vs e1 e3 x2 m2 l2 r2 => ?_
  have p2 := p.ext x2
  have hv : (vs ++ []).length = n := by rw [List.append_nil, ← r2.len]; exact hlen _ _ _ _ e1
  rw [List.append_nil] at hv ⊢
  split at e3
  · rename_i hp
    refine ⟨hv, Λ, ι2, ds, μ2, r, m2, Reps.lam (Λ := Λ) (Λ' := Λ.pure) rfl ds hp r2, e3, ?_⟩
    cases r with
    | ok d μ' => exact fun ι' H' v e m' rv => p2 ι' H' v e m' (Rep.of_pure d rv)
    | exc c μ' => exact fun ι' H' e m' => p2 ι' H' e m'
  · cases e3
theorem de_call0 (F : Fn g j x 0 Fs) (hk : j ≤ k) (hg : Gl X x := by rfl) (hdb : (x == ("__debug__" : Str)) = false := by decide) : DE g k Λ X W (.Call (.Name x p) [] [] pos) (bCall0 Fs) := fun ok tk => by
  obtain ⟨f, fd, ps, h1, h2, h3, h4⟩ := F.run hk ok
  refine PE.imp (pe_call0 h4 (ok.room.mono hk) hg h1 h2 h3 .nil (E := fun _ _ _ => False) (passes_call tk fun _ _ _ _ z => z.elim) hdb) fun σ H Q ⟨ι, ρ, μ, r, l, m, e, p⟩ => ?_
  unfold bCall0 at e
  split at e
  · rename_i d μ' hF
    split at e
    · rename_i hd
      cases e
      show spM g 0 Fs ([] ++ []) H Q (fun _ _ _ => False)
      exact sp_pure (ds := []) (E := fun _ _ _ => False) m rfl rfl rfl hF ⟨hd, fun H' v e m' rv => p ι H' v e m' rv⟩
    · cases e
  · cases e
theorem bNil_len : ∀ (ρ : En) (μ : Sto) (ds : List D) (μ1 : Sto), bNil ρ μ = some (.ok ds μ1) → ds.length = 0 := fun _ _ _ _ h => by cases h; rfl
theorem bCons_len {fa : Cb D} {fr : Cb (List D)} {n : Nat} (h : ∀ (ρ : En) (μ : Sto) (ds : List D) (μ1 : Sto), fr ρ μ = some (.ok ds μ1) → ds.length = n) : ∀ (ρ : En) (μ : Sto) (ds : List D) (μ1 : Sto), bCons fa fr ρ μ = some (.ok ds μ1) → ds.length = n + 1 := fun ρ μ ds μ1 e => by
  unfold bCons at e
  cases q : fa ρ μ with
  | none => rw [q] at e; cases e
  | some o =>
    rw [q] at e
    cases o with
    | exc c m => cases e
    | ok d m =>
      have e : ob (fr ρ m) (fun xs μ2 => some (.ok (d :: xs) μ2)) = some (.ok ds μ1) := e
      cases q2 : fr ρ m with
      | none => rw [q2] at e; cases e
      | some o2 =>
        rw [q2] at e
        cases o2 with
        | exc c m => cases e
        | ok d2 m2 => cases e; rw [List.length_cons, h _ _ _ _ q2]
end

/-! ### built-ins -/
def bFn (o : Sto → List D → Option D) (fs : Cb (List D)) : Cb D := fun ρ μ => ob (fs ρ μ) fun ds μ1 => rt (o μ1 ds) μ1
def DCall (g : Gb) (k : Nat) (Λ : Lr) (f : Value) (o : Sto → List D → Option D) : Prop := ∀ X, XOk g k X → CallR X f (fun xs H Q => ∃ ι μ ds d, MR g Λ ι H μ ∧ Reps g.K Λ ι H ds xs ∧ o μ ds = some d ∧ ∀ ι' H' v, Ext ι H ι' H' → MR g Λ ι' H' μ → Rep g.K Λ ι' H' d v → Q v H')
def intsD : List D → Option (List Int)
  | [] => some []
  | .int i :: r => match intsD r with
    | some is => some (i :: is)
    | none => none
  | _ => none
def txtsD : List D → Option (List Str)
  | [] => some []
  | .str i :: r => match txtsD r with
    | some is => some (i :: is)
    | none => none
  | _ => none
theorem ints_eq : ∀ {ds : List D} {is : List Int}, intsD ds = some is → ds = is.map .int
  | [], _, h => by cases h; rfl
  | d :: r, is, h => by
    cases d <;> first | (simp only [intsD] at h; split at h <;> first | (cases h; rename_i q; rw [List.map_cons, ← ints_eq q]; done) | (cases h; done)) | (simp [intsD] at h; done)
theorem txts_eq : ∀ {ds : List D} {is : List Str}, txtsD ds = some is → ds = is.map .str
  | [], _, h => by cases h; rfl
  | d :: r, is, h => by
    cases d <;> first | (simp only [txtsD] at h; split at h <;> first | (cases h; rename_i q; rw [List.map_cons, ← txts_eq q]; done) | (cases h; done)) | (simp [txtsD] at h; done)
theorem Reps.txts {K Λ ι H} : ∀ {ns : List Str} {vs : List V}, Reps K Λ ι H (ns.map .str) vs → vs = ns.map V.str
  | [], _, h => h
  | n :: ns, _, ⟨v, r, h1, h2, h3⟩ => by subst h1; cases (show v = .str n from h2); rw [Reps.txts h3]; rfl
theorem Reps.of_txts {K Λ ι H} : ∀ {ns : List Str}, Reps K Λ ι H (ns.map .str) (ns.map V.str)
  | [] => rfl
  | n :: ns => ⟨_, _, rfl, rfl, Reps.of_txts⟩
theorem Reps.inv1 {K Λ ι H} {d : D} {vs : List V} (h : Reps K Λ ι H [d] vs) : ∃ v, vs = [v] ∧ Rep K Λ ι H d v := by
  obtain ⟨v, r, h1, h2, h3⟩ := h
  cases (show r = [] from h3)
  exact ⟨v, h1, h2⟩
theorem Reps.inv2 {K Λ ι H} {d e : D} {vs : List V} (h : Reps K Λ ι H [d, e] vs) : ∃ v u, vs = [v, u] ∧ Rep K Λ ι H d v ∧ Rep K Λ ι H e u := by
  obtain ⟨v, r, h1, h2, h3⟩ := h
  obtain ⟨u, q1, q2⟩ := Reps.inv1 h3
  exact ⟨v, u, by rw [h1, q1], h2, q2⟩
def dLen (μ : Sto) : List D → Option D
  | [.str z] => if z.length ≤ 16777216 then some (.int z.length) else none
  | [d] => match sqD μ d with
    | some xs => some (.int xs.length)
    | none => none
  | _ => none
def dAbs (_ : Sto) : List D → Option D
  | [.int i] => some (.int (if i < 0 then -i else i))
  | _ => none
def dMax2 (_ : Sto) : List D → Option D
  | [.int i, .int j] => some (.int (if j > i then j else i))
  | _ => none
def dMin2 (_ : Sto) : List D → Option D
  | [.int i, .int j] => some (.int (if j < i then j else i))
  | _ => none
def dInt (_ : Sto) : List D → Option D
  | [.int i] => some (.int i)
  | [.bl k] => some (.int (if k then 1 else 0))
  | [.str a] => if a.length ≤ 640 then (match PySem.intText? a with
    | some n => some (.int n)
    | none => none) else none
  | _ => none
def dStr (_ : Sto) : List D → Option D
  | [.int i] => if i.natAbs.log2 < 1920 then some (.str (toString i)) else none
  | _ => none
def dSum (μ : Sto) : List D → Option D
  | [d] => match vw μ d with
    | some xs => match intsD xs with
      | some ns => some (.int ns.sum)
      | none => none
    | none => none
  | _ => none
def dList (μ : Sto) : List D → Option D
  | [d] => match sqD μ d with
    | some xs => some (.lst xs)
    | none => none
  | _ => none
def dTuple (μ : Sto) : List D → Option D
  | [.tup xs] => some (.tup xs)
  | [d] => match vw μ d with
    | some xs => some (.tup xs)
    | none => none
  | _ => none
section
variable {g : Gb} {k : Nat} {Λ : Lr}
theorem dc_len : DCall g k Λ (.builtin "len") dLen := by
  intro X ok pins s σ H xs us Q I r ⟨ι, μ, ds, d, m, rs, e, q⟩
  unfold dLen at e
  split at e
  · split at e
    · rename_i hz
      cases e
      obtain ⟨v, rfl, rv⟩ := rs.inv1
      cases rv
      exact call_len_str pins s σ H _ us Q I r ⟨_, rfl, szl_le hz, q ι H _ (.refl _ _) m rfl⟩
    · cases e
  · split at e
    · rename_i d' _ xs hx
      cases e
      obtain ⟨v, rfl, rv⟩ := rs.inv1
      obtain ⟨a, vs, rfl, h2, h3⟩ := sq_rd m rv hx
      exact call_len_seq pins s σ H _ us Q I r ⟨a, vs, rfl, by rw [ok.K]; exact h2, q ι H _ (.refl _ _) m (by show V.int _ = V.int _; rw [h3.len])⟩
    · cases e
  · cases e
theorem dc_abs : DCall g k Λ (.builtin "abs") dAbs := by
  intro X ok pins s σ H xs us Q I r ⟨ι, μ, ds, d, m, rs, e, q⟩
  unfold dAbs at e
  split at e
  · cases e
    obtain ⟨v, rfl, rv⟩ := rs.inv1
    cases rv
    exact call_abs pins s σ H _ us Q I r ⟨_, rfl, q ι H _ (.refl _ _) m rfl⟩
  · cases e
theorem dc_max2 : DCall g k Λ (.builtin "max") dMax2 := by
  intro X ok pins s σ H xs us Q I r ⟨ι, μ, ds, d, m, rs, e, q⟩
  unfold dMax2 at e
  split at e
  · cases e
    obtain ⟨v, u, rfl, rv, ru⟩ := rs.inv2
    cases rv; cases ru
    exact call_max2 ok.calm pins s σ H _ us Q I r ⟨_, _, rfl, q ι H _ (.refl _ _) m rfl⟩
  · cases e
theorem dc_min2 : DCall g k Λ (.builtin "min") dMin2 := by
  intro X ok pins s σ H xs us Q I r ⟨ι, μ, ds, d, m, rs, e, q⟩
  unfold dMin2 at e
  split at e
  · cases e
    obtain ⟨v, u, rfl, rv, ru⟩ := rs.inv2
    cases rv; cases ru
    exact call_min2 ok.calm pins s σ H _ us Q I r ⟨_, _, rfl, q ι H _ (.refl _ _) m rfl⟩
  · cases e
theorem dc_int : DCall g k Λ (.type "int") dInt := by
  intro X ok pins s σ H xs us Q I r ⟨ι, μ, ds, d, m, rs, e, q⟩
  unfold dInt at e
  split at e
  · cases e
    obtain ⟨v, rfl, rv⟩ := rs.inv1
    cases rv
    exact call_int1 pins s σ H _ us Q I r (.inl ⟨_, rfl, q ι H _ (.refl _ _) m rfl⟩)
  · cases e
    obtain ⟨v, rfl, rv⟩ := rs.inv1
    cases rv
    exact call_int1 pins s σ H _ us Q I r (.inr ⟨_, rfl, q ι H _ (.refl _ _) m rfl⟩)
  · split at e
    · split at e
      · rename_i hz _ n hn
        cases e
        obtain ⟨v, rfl, rv⟩ := rs.inv1
        cases rv
        exact call_int_str pins s σ H _ us Q I r ⟨_, n, rfl, hn, hz, q ι H _ (.refl _ _) m rfl⟩
      · cases e
    · cases e
  · cases e
theorem dc_str : DCall g k Λ (.type "str") dStr := by
  intro X ok pins s σ H xs us Q I r ⟨ι, μ, ds, d, m, rs, e, q⟩
  unfold dStr at e
  split at e
  · split at e
    · rename_i hz
      cases e
      obtain ⟨v, rfl, rv⟩ := rs.inv1
      cases rv
      exact call_str_int pins s σ H _ us Q I r ⟨_, rfl, hz, q ι H _ (.refl _ _) m rfl⟩
    · cases e
  · cases e
theorem cr_sumR {X : Cx} (hc : X.calm = true) : CallR X (.builtin "sum") (rSum X.K) := cr_sum hc
theorem dc_sum : DCall g k Λ (.builtin "sum") dSum := by
  intro X ok pins s σ H xs us Q I r ⟨ι, μ, ds, d, m, rs, e, q⟩
  unfold dSum at e
  split at e
  · split at e
    · rename_i ys hy
      split at e
      · rename_i ns hn
        cases e
        obtain ⟨v, rfl, rv⟩ := rs.inv1
        obtain ⟨a, vs, rfl, h2, h3⟩ := vw_rd m rv hy
        rw [ints_eq hn] at h3
        have := h3.ints
        subst this
        exact cr_sum ok.calm pins s σ H _ us Q I r ⟨a, ns, rfl, .inl h2, q ι H _ (.refl _ _) m rfl⟩
      · cases e
    · cases e
  · cases e
theorem dc_list : DCall g k Λ (.type "list") dList := by
  intro X ok pins s σ H xs us Q I r ⟨ι, μ, ds, d, m, rs, e, q⟩
  unfold dList at e
  split at e
  · split at e
    · rename_i ys hy
      cases e
      obtain ⟨v, rfl, rv⟩ := rs.inv1
      obtain ⟨a, vs, rfl, h2, h3⟩ := sq_rd m rv hy
      refine call_list_of pins s σ H _ us Q I r ⟨a, vs, rfl, by rw [ok.K]; exact h2, fun l hl => ?_⟩
      obtain ⟨y1, y2, y3⟩ := new_lst m hl h3
      exact q _ _ _ y1 y2 y3
    · cases e
  · cases e
theorem dc_tuple : DCall g k Λ (.type "tuple") dTuple := by
  intro X ok pins s σ H xs us Q I r ⟨ι, μ, ds, d, m, rs, e, q⟩
  unfold dTuple at e
  split at e
  · cases e
    obtain ⟨v, rfl, rv⟩ := rs.inv1
    obtain ⟨a, vs, rfl, h2, h3⟩ := id rv
    exact call_tuple_of pins s σ H _ us Q I r ⟨a, vs, rfl, .inr ⟨by rw [ok.K]; exact h2.sq, q ι H _ (.refl _ _) m rv⟩⟩
  · split at e
    · rename_i ys hy
      cases e
      obtain ⟨v, rfl, rv⟩ := rs.inv1
      obtain ⟨a, vs, rfl, h2, h3⟩ := vw_rd m rv hy
      refine call_tuple_of pins s σ H _ us Q I r ⟨a, vs, rfl, .inl ⟨.inl h2, fun l hl => ?_⟩⟩
      obtain ⟨y1, y2, y3⟩ := new_tup m hl h3
      exact q _ _ _ y1 y2 y3
    · cases e
  · cases e
variable {X : Cx} {W : WX} {a : Expr} {es : List Expr} {fs : Cb (List D)} {p pos : Pos} {o : Sto → List D → Option D}
theorem de_bfn {id : String} {x : Str} (hv : bootBuiltins x = some (.builtin id)) (hc : DCall g k Λ (.builtin id) o) (hm : g.mg x = none) (ha : DA g k Λ X W (a :: es) fs) (hg : Gl X x := by rfl) (hn : x ≠ "__name__" := by decide) (hdb : (x == ("__debug__" : Str)) = false := by decide)
    (he : starEach (a :: es) X.env = (false, eval a X.env) :: starEach es X.env := by rfl) (hpl : (backTo pos (starEach es X.env)).any (·.1) = false := by rfl) : DE g k Λ X W (.Call (.Name x p) (a :: es) [] pos) (bFn o fs) := fun ok tk =>
  PE.imp (pe_callB (hc X ok) hg (by rw [ok.mg]; exact hm) hv (ha ok tk) hn hdb he hpl) fun σ H Q ⟨ι, ρ, μ, r, l, m, e, p⟩ => go_A l m e p.px fun ds μ2 ι2 H2 vs e1 e3 x2 m2 l2 r2 => by
    obtain ⟨z, hz, rfl⟩ := rt_some e3
    exact ⟨ι2, μ2, ds, z, m2, r2, hz, p.ext x2⟩
theorem de_tfn {T : String} {x : Str} (hv : bootBuiltins x = some (.type T)) (hc : DCall g k Λ (.type T) o) (hm : g.mg x = none) (ha : DA g k Λ X W (a :: es) fs) (hg : Gl X x := by rfl) (hn : x ≠ "__name__" := by decide) (hdb : (x == ("__debug__" : Str)) = false := by decide)
    (he : starEach (a :: es) X.env = (false, eval a X.env) :: starEach es X.env := by rfl) (hpl : (backTo pos (starEach es X.env)).any (·.1) = false := by rfl) : DE g k Λ X W (.Call (.Name x p) (a :: es) [] pos) (bFn o fs) := fun ok tk =>
  PE.imp (pe_callTy (hc X ok) hg (by rw [ok.mg]; exact hm) hv (ha ok tk) hn hdb he hpl) fun σ H Q ⟨ι, ρ, μ, r, l, m, e, p⟩ => go_A l m e p.px fun ds μ2 ι2 H2 vs e1 e3 x2 m2 l2 r2 => by
    obtain ⟨z, hz, rfl⟩ := rt_some e3
    exact ⟨ι2, μ2, ds, z, m2, r2, hz, p.ext x2⟩
end
end Mi

set_option Elab.async false
set_option linter.all false
set_option maxRecDepth 100000
set_option maxHeartbeats 4000000
namespace Mi
open PySem L2

/-! ### texts -/
def bFmt (f : Cb D) : Cb D := fun ρ μ => ob (f ρ μ) fun d μ1 => match d with
  | .str y => if y.length ≤ 16777216 then some (.ok (.str y) μ1) else none
  | .int i => if i.natAbs.log2 < 1920 then some (.ok (.str (toString i)) μ1) else none
  | _ => none
def bJs : List (Cb D) → Str → Cb D
  | [], acc => fun _ μ => some (.ok (.str acc) μ)
  | f :: fs, acc => fun ρ μ => ob (f ρ μ) fun d μ1 => match d with
    | .str y => if (acc ++ y).length ≤ 16777216 then bJs fs (acc ++ y) ρ μ1 else none
    | _ => none
def bM1 (o : Sto → Str → D → Option D) (fa fb : Cb D) : Cb D := fun ρ μ => ob (fa ρ μ) fun x μ1 => match x with
  | .str a => ob (fb ρ μ1) fun y μ2 => rt (o μ2 a y) μ2
  | _ => none
def dSplit (_ : Sto) (a : Str) : D → Option D
  | .str b => if (b.length == 0) = false ∧ a.length + 2 ≤ 16777216 then some (.lst ((Txt.split a b).map .str)) else none
  | _ => none
def dJoin (μ : Sto) (a : Str) (y : D) : Option D := match sqD μ y with
  | some ds => match txtsD ds with
    | some ys => if (ys.map (·.length)).sum + ys.length * a.length ≤ 16777216 then some (.str (Txt.join a ys)) else none
    | none => none
  | none => none
/-! ### slices -/
def cutD {α : Type} (xs : List α) (lo hi : Option Int) : List α := (xs.drop (HT.sIx xs.length 0 lo)).take (HT.sIx xs.length xs.length hi - HT.sIx xs.length 0 lo)
def dSl (μ : Sto) (x : D) (lo hi : Option Int) : Option D := match x with
  | .scr ns => some (.lst ((cutD ns lo hi).map .int))
  | .str z => if z.length ≤ 16777216 then some (.str (cutS z lo hi)) else none
  | .tup xs => some (.tup (cutD xs lo hi))
  | d => match vw μ d with
    | some xs => some (.lst (cutD xs lo hi))
    | none => none
def bNoPart : Cb (Option Int) := fun _ μ => some (.ok none μ)
def bPart (f : Cb D) : Cb (Option Int) := fun ρ μ => ob (f ρ μ) fun d μ1 => match d with
  | .int i => some (.ok (some i) μ1)
  | _ => none
def bSl (fa : Cb D) (fl fh : Cb (Option Int)) : Cb D := fun ρ μ => ob (fa ρ μ) fun x μ1 => ob (fl ρ μ1) fun lo μ2 => ob (fh ρ μ2) fun hi μ3 => rt (dSl μ3 x lo hi) μ3
section
variable {g : Gb} {k : Nat} {Λ : Lr} {X : Cx} {W : WX} {a b c : Expr} {fa fb fc : Cb D} {pos p2 apos : Pos}
theorem de_fmt (ha : DE g k Λ X W a fa) : DE g k Λ X W (.FormattedValue a (-1) none pos) (bFmt fa) := fun ok tk =>
  PE.imp (pe_fmt (ha ok tk)) fun σ H Q ⟨ι, ρ, μ, r, l, m, e, p⟩ => go_E (X1 := True) l m e p.px fun d μ1 ι1 H1 v e1 e2 x1 m1 l1 r1 => by
    split at e2
    · split at e2
      · rename_i hz
        cases e2; cases r1
        exact .inl ⟨_, rfl, szl_le hz, p ι1 H1 (.str _) x1 m1 rfl⟩
      · cases e2
    · split at e2
      · rename_i hz
        cases e2; cases r1
        exact .inr ⟨_, rfl, hz, p ι1 H1 (.str _) x1 m1 rfl⟩
      · cases e2
    · cases e2
def DJ (g : Gb) (k : Nat) (Λ : Lr) (X : Cx) (W : WX) (es : List Expr) (fs : List (Cb D)) : Prop := XOk g k X → Takes X W → PJ X es (fs.map (rdE g Λ W))
theorem dj_nil : DJ g k Λ X W [] [] := fun _ _ => .nil
theorem dj_cons {es : List Expr} {fs : List (Cb D)} (ha : DE g k Λ X W a fa) (hr : DJ g k Λ X W es fs) : DJ g k Λ X W (a :: es) (fa :: fs) := fun ok tk => .cons (ha ok tk) (hr ok tk)
theorem js_rd {σ : St} {ρ : En} {r : Out D} {Q : VK} : ∀ (fs : List (Cb D)) (acc : Str) (ι : List Addr) (H : Hp) (μ : Sto), LR g Λ ι H σ ρ → MR g Λ ι H μ → bJs fs acc ρ μ = some r → Post g Λ W ι H σ r Q → tJs (fs.map (rdE g Λ W)) acc σ H fun out H1 => Q (.str out) H1
  | [], acc, ι, H, μ, l, m, e, p => by cases e; exact p ι H (.str acc) (.refl _ _) m rfl
  | f :: fs, acc, ι, H, μ, l, m, e, p => go_E (X1 := True) l m (show ob (f ρ μ) _ = some r from e) p.px fun d μ1 ι1 H1 v e1 e2 x1 m1 l1 r1 => by
    split at e2
    · split at e2
      · rename_i hz
        cases r1
        exact ⟨_, rfl, szl_le hz, js_rd fs _ ι1 H1 μ1 l1 m1 e2 (p.ext x1)⟩
      · cases e2
    · cases e2
theorem de_joined {es : List Expr} {f1 f2 : Cb D} {fs : List (Cb D)} (h : DJ g k Λ X W (a :: b :: es) (f1 :: f2 :: fs)) : DE g k Λ X W (.JoinedStr (a :: b :: es) pos) (bJs (f1 :: f2 :: fs) Str.empty) := fun ok tk =>
  PE.imp (pe_joined (h ok tk)) fun σ H Q ⟨ι, ρ, μ, r, l, m, e, p⟩ => js_rd (f1 :: f2 :: fs) Str.empty ι H μ l m e p
theorem de_joined1 (h : DE g k Λ X W a fa) : DE g k Λ X W (.JoinedStr [a] pos) fa := fun ok tk => pe_joined1 (h ok tk)
theorem rd_m1 {o : Sto → Str → D → Option D} {rr : V → List V → Hp → VK → Prop} {σ : St} {H : Hp} {Q : VK}
    (hrr : ∀ a y H Q, (∃ ι μ b d, MR g Λ ι H μ ∧ Rep g.K Λ ι H b y ∧ o μ a b = some d ∧ ∀ ι' H' v, Ext ι H ι' H' → MR g Λ ι' H' μ → Rep g.K Λ ι' H' d v → Q v H') → rr (.str a) [y] H Q)
    (h : rdE g Λ W (bM1 o fa fb) σ H Q) : tM1 rr (rdE g Λ W fa) (rdE g Λ W fb) σ H Q := by
  obtain ⟨ι, ρ, μ, r, l, m, e, p⟩ := h
  refine go_E (X1 := True) l m e p.px fun d μ1 ι1 H1 v e1 e2 x1 m1 l1 r1 => ?_
  split at e2
  · cases r1
    refine ⟨⟨_, rfl⟩, go_E (X1 := True) l1 m1 e2 (p.ext x1).px fun d2 μ2 ι2 H2 v2 _ e3 x2 m2 l2 r2 => ?_⟩
    obtain ⟨z, hz, rfl⟩ := rt_some e3
    exact hrr _ _ _ _ ⟨ι2, μ2, d2, z, m2, r2, hz, (p.ext x1).ext x2⟩
  · cases e2
theorem de_split (ha : DE g k Λ X W a fa) (hb : DE g k Λ X W b fb) (hs : starEach [b] X.env = [(false, eval b X.env)] := by rfl) (hbase : attributeBase a "split" X.env (eval a X.env) = eval a X.env := by rfl) (hline : (apos.endLine == pos.line) = true := by rfl) :
    DE g k Λ X W (.Call (.Attribute a "split" apos) [b] [] pos) (bM1 dSplit fa fb) := fun ok tk => PE.imp (pe_split (ha ok tk) (hb ok tk) hs hbase hline) fun σ H Q h => rd_m1 (fun z y H Q ⟨ι, μ, bb, d, m, rb, e, q⟩ => by
  unfold dSplit at e
  split at e
  · split at e
    · rename_i hz
      cases e; cases rb
      refine ⟨z, _, rfl, rfl, hz.1, szl_le hz.2, fun p hp => ?_⟩
      obtain ⟨y1, y2, y3⟩ := new_lst m hp (Reps.of_txts (ns := Txt.split z _))
      exact q _ _ _ y1 y2 y3
    · cases e
  · cases e) h
theorem de_join (ha : DE g k Λ X W a fa) (hb : DE g k Λ X W b fb) (hs : starEach [b] X.env = [(false, eval b X.env)] := by rfl) (hbase : attributeBase a "join" X.env (eval a X.env) = eval a X.env := by rfl) (hline : (apos.endLine == pos.line) = true := by rfl) :
    DE g k Λ X W (.Call (.Attribute a "join" apos) [b] [] pos) (bM1 dJoin fa fb) := fun ok tk => PE.imp (pe_join (ha ok tk) (hb ok tk) hs hbase hline) fun σ H Q h => rd_m1 (fun z y H Q ⟨ι, μ, bb, d, m, rb, e, q⟩ => by
  unfold dJoin at e
  split at e
  · rename_i ds hd
    split at e
    · rename_i ys hy
      split at e
      · rename_i hz
        cases e
        obtain ⟨p, vs, rfl, h2, h3⟩ := sq_rd m rb hd
        rw [txts_eq hy] at h3
        have := h3.txts
        subst this
        exact ⟨z, p, ys, rfl, rfl, by rw [ok.K]; exact h2, hz, q ι H _ (.refl _ _) m rfl⟩
      · cases e
    · cases e
  · cases e) h
/-! slices -/
def PostO (g : Gb) (Λ : Lr) (W : WX) (ι : List Addr) (H : Hp) (σ : St) (r : Out (Option Int)) (Q : Option Int → Hp → Prop) : Prop :=
  match r with
  | .ok b μ => ∀ ι' H', Ext ι H ι' H' → MR g Λ ι' H' μ → Q b H'
  | .exc c μ => ∀ ι' H', Ext ι H ι' H' → MR g Λ ι' H' μ → W (.ref (g.cls c)) none σ H'
def rdO (g : Gb) (Λ : Lr) (W : WX) (f : Cb (Option Int)) : TO := fun σ H Q => ∃ ι ρ μ r, LR g Λ ι H σ ρ ∧ MR g Λ ι H μ ∧ f ρ μ = some r ∧ PostO g Λ W ι H σ r Q
def DO_ (g : Gb) (k : Nat) (Λ : Lr) (X : Cx) (W : WX) (e : Option Expr) (f : Cb (Option Int)) : Prop := XOk g k X → Takes X W → PO X e (rdO g Λ W f)
theorem PO.imp {X : Cx} {e : Option Expr} {t u : TO} (h : PO X e t) (i : ∀ σ H Q, u σ H Q → t σ H Q) : PO X e u := ⟨fun pins s σ H Q I q => h.run pins s σ H Q I (i σ H Q q)⟩
theorem do_none : DO_ g k Λ X W none bNoPart := fun _ _ => PO.imp po_none fun σ H Q ⟨ι, ρ, μ, r, l, m, e, p⟩ => by cases e; exact p ι H (.refl _ _) m
theorem do_some (ha : DE g k Λ X W a fa) : DO_ g k Λ X W (some a) (bPart fa) := fun ok tk => PO.imp (po_some (ha ok tk)) fun σ H Q ⟨ι, ρ, μ, r, l, m, e, p⟩ =>
  go_E (X1 := True) l m e (fun c μ1 er => by subst er; exact p) fun d μ1 ι1 H1 v e1 e2 x1 m1 l1 r1 => by
    split at e2
    · cases e2; cases r1; exact ⟨_, rfl, p ι1 H1 x1 m1⟩
    · cases e2
theorem go_O {β : Type} {ι : List Addr} {H : Hp} {σ : St} {ρ : En} {μ : Sto} {f : Cb (Option Int)} {kk : Option Int → Sto → Option (Out β)} {r : Out β} {R : Option Int → Hp → Prop} (l : LR g Λ ι H σ ρ) (m : MR g Λ ι H μ) (h : ob (f ρ μ) kk = some r)
    (px : ∀ c μ1, r = .exc c μ1 → ∀ ι' H', Ext ι H ι' H' → MR g Λ ι' H' μ1 → W (.ref (g.cls c)) none σ H')
    (go : ∀ d μ1 ι1 H1, f ρ μ = some (.ok d μ1) → kk d μ1 = some r → Ext ι H ι1 H1 → MR g Λ ι1 H1 μ1 → LR g Λ ι1 H1 σ ρ → R d H1) : rdO g Λ W f σ H R := by
  cases q : f ρ μ with
  | none => rw [q] at h; cases h
  | some o =>
    refine ⟨ι, ρ, μ, o, l, m, q, ?_⟩
    cases o with
    | ok d μ1 => rw [q] at h; exact fun ι1 H1 e m1 => go d μ1 ι1 H1 q h e m1 (l.ext e)
    | exc c μ1 =>
      rw [q] at h
      exact px c μ1 (Option.some.inj (show some (Out.exc c μ1) = some r from h)).symm
theorem sl_all {X : Cx} : SlR X (fun x lo hi H Q => rSlL X.K x lo hi H Q ∨ rSlA X.K x lo hi H Q ∨ rSlS x lo hi H Q) := SlR.or sl_list (SlR.or sl_tupA sl_str)
theorem cut_reps {ι : List Addr} {H : Hp} {ds : List D} {vs : List V} {lo hi : Option Int} (r : Reps g.K Λ ι H ds vs) : Reps g.K Λ ι H (cutD ds lo hi) (cutV vs lo hi) := by
  unfold cutD cutV
  rw [r.len]
  exact (r.drop _).take _
theorem cut_whole {α : Type} {xs : List α} {lo hi : Option Int} (h : HT.sIx xs.length 0 lo = 0 ∧ HT.sIx xs.length xs.length hi = xs.length) : cutD xs lo hi = xs := by
  unfold cutD
  rw [h.1, h.2]
  simp
theorem de_sl {lo hi : Option Expr} {fl fh : Cb (Option Int)} (ha : DE g k Λ X W a fa) (hl : DO_ g k Λ X W lo fl) (hh : DO_ g k Λ X W hi fh) : DE g k Λ X W (.Subscript a (.Slice lo hi none p2) pos) (bSl fa fl fh) := fun ok tk =>
  PE.imp (pe_slice sl_all (ha ok tk) (hl ok tk) (hh ok tk)) fun σ H Q ⟨ι, ρ, μ, r, l, m, e, p⟩ => go_E (X1 := True) l m e p.px fun d μ1 ι1 H1 v e1 e2 x1 m1 l1 r1 =>
    go_O l1 m1 e2 (p.ext x1).px fun lo μ2 ι2 H2 _ e3 x2 m2 l2 => go_O l2 m2 e3 ((p.ext x1).ext x2).px fun hi μ3 ι3 H3 _ e4 x3 m3 l3 => by
      obtain ⟨z, hz, rfl⟩ := rt_some e4
      have p3 := ((p.ext x1).ext x2).ext x3
      have r3 := (r1.ext x2).ext x3
      unfold dSl at hz
      split at hz
      · rename_i ns
        cases hz
        obtain ⟨a, rfl, h2⟩ := r3
        refine .inl ⟨a, _, rfl, by rw [ok.K]; exact h2.sq, fun p hp => ?_⟩
        have hc : cutV (ns.map V.int) lo hi = (cutD ns lo hi).map V.int := by
          unfold cutV cutD
          rw [List.length_map, List.map_take, List.map_drop]
        rw [hc]
        obtain ⟨y1, y2, y3⟩ := new_lst m3 hp (Reps.of_ints (ns := cutD ns lo hi))
        exact p3 _ _ _ y1 y2 y3
      · split at hz
        · rename_i hl
          cases hz; cases r3
          exact .inr (.inr ⟨_, rfl, szl_le hl, p3 ι3 H3 (.str _) (.refl _ _) m3 rfl⟩)
        · cases hz
      · rename_i xs
        cases hz
        obtain ⟨a, vs, rfl, h2, h3⟩ := id r3
        refine .inr (.inl ⟨a, vs, rfl, by rw [ok.K]; exact h2.sq, fun hw => ?_, fun hw p hp => ?_⟩)
        · have hc : cutD xs lo hi = xs := cut_whole (by rw [h3.len]; exact hw)
          rw [hc] at p3
          exact p3 ι3 H3 _ (.refl _ _) m3 r3
        · obtain ⟨y1, y2, y3⟩ := new_tup m3 hp (cut_reps (lo := lo) (hi := hi) h3)
          exact p3 _ _ _ y1 y2 y3
      · split at hz
        · rename_i xs hx
          cases hz
          obtain ⟨a, vs, rfl, h2, h3⟩ := vw_rd m3 r3 hx
          refine .inl ⟨a, vs, rfl, .inl h2, fun p hp => ?_⟩
          obtain ⟨y1, y2, y3⟩ := new_lst m3 hp (cut_reps (lo := lo) (hi := hi) h3)
          exact p3 _ _ _ y1 y2 y3
        · cases hz
end
/-! ### dicts: a display, a look-up -/
theorem notq {H : Hp} {p : Addr} {av : List Addr} {a : Addr} {u : HO} (hp : H p = none) (h : H a = some u) (n : a ∉ av) : a ∉ p :: av := by
  intro z
  rcases List.mem_cons.mp z with z | z
  · rw [z, hp] at h; cases h
  · exact n z
theorem notp {H : Hp} {p : Addr} {av : List Addr} {a : Addr} {u : HO} (hp : H p = none) (h : Rd H a u) (n : a ∉ av) : a ∉ p :: av := by
  rcases h with h | ⟨w, h⟩
  · exact notq hp h n
  · exact notq hp h n
/-! another object may change, if the frame leaves it alone -/
theorem Rd.out {Λ : Lr} {H : Hp} {p a : Addr} {o u : HO} (hp : p ∈ Λ.av) (h : Rd H a u) (n : a ∉ Λ.av) : Rd (upd H p o) a u := by
  have e : a ≠ p := fun z => n (by rw [z]; exact hp)
  rcases h with h | ⟨w, h⟩
  · exact .inl (by rw [upd_ne e]; exact h)
  · exact .inr ⟨w, by rw [upd_ne e]; exact h⟩
section
variable {K : PySem.W.Frag} {Λ : Lr} {ι : List Addr} {H : Hp} {p : Addr} {o : HO}
mutual
theorem Rep.out (hp : p ∈ Λ.av) (hq : ∀ c q, H p ≠ some (LamX.CodeO c q)) : ∀ (d : D) {v : V}, Rep K Λ ι H d v → Rep K Λ ι (upd H p o) d v
  | .non, _, h => h
  | .bl _, _, h => h
  | .int _, _, h => h
  | .str _, _, h => h
  | .tup xs, _, ⟨a, vs, h1, h2, h3⟩ => ⟨a, vs, h1, h2.elim (fun h => .inl ⟨Rd.out hp h.1 h.2.2, h.2⟩) .inr, Reps.out hp hq xs h3⟩
  | .lst xs, _, ⟨a, vs, h1, h2, h3⟩ => ⟨a, vs, h1, ⟨Rd.out hp h2.1 h2.2.2, h2.2⟩, Reps.out hp hq xs h3⟩
  | .dct ks xs, _, ⟨a, kvs, h1, h2, h3, h4, h5⟩ => ⟨a, kvs, h1, Rd.out hp h2 h3.2, h3, h4, Reps.out hp hq xs h5⟩
  | .ref n, _, h => h
  | .lam n, _, ⟨a, c, q, u, h1, h2, h3, h4, h5, h6, h7⟩ => ⟨a, c, q, u, h1, by rw [upd_ne (fun z => h4.2 (by rw [z]; exact hp))]; exact h2, h3, h4, by rw [upd_ne (fun z => hq c q (by rw [← z]; exact h5))]; exact h5, h6, h7⟩
  | .scr ns, _, ⟨a, h1, h2⟩ => ⟨a, h1, h2.elim (fun h => .inl ⟨Rd.out hp h.1 h.2.2, h.2⟩) .inr⟩
theorem Reps.out (hp : p ∈ Λ.av) (hq : ∀ c q, H p ≠ some (LamX.CodeO c q)) : ∀ (ds : List D) {vs : List V}, Reps K Λ ι H ds vs → Reps K Λ ι (upd H p o) ds vs
  | [], _, h => h
  | d :: ds, _, ⟨v, r, h1, h2, h3⟩ => ⟨v, r, h1, Rep.out hp hq d h2, Reps.out hp hq ds h3⟩
end
/-- a new object that is to be left alone -/
abbrev Lr.add (Λ : Lr) (p : Addr) : Lr := ⟨Λ.lam, p :: Λ.av⟩
mutual
theorem Rep.add (hp : H p = none) : ∀ (d : D) {v : V}, Rep K Λ ι H d v → Rep K (Λ.add p) ι H d v
  | .non, _, h => h
  | .bl _, _, h => h
  | .int _, _, h => h
  | .str _, _, h => h
  | .tup xs, _, ⟨a, vs, h1, h2, h3⟩ => ⟨a, vs, h1, h2.elim (fun h => .inl ⟨h.1, h.2.1, notp hp h.1 h.2.2⟩) .inr, Reps.add hp xs h3⟩
  | .lst xs, _, ⟨a, vs, h1, h2, h3⟩ => ⟨a, vs, h1, ⟨h2.1, h2.2.1, notp hp h2.1 h2.2.2⟩, Reps.add hp xs h3⟩
  | .dct ks xs, _, ⟨a, kvs, h1, h2, h3, h4, h5⟩ => ⟨a, kvs, h1, h2, ⟨h3.1, notp hp h2 h3.2⟩, h4, Reps.add hp xs h5⟩
  | .ref n, _, h => h
  | .lam n, _, ⟨a, c, q, u, h1, h2, h3, h4, h5, h6, h7⟩ => ⟨a, c, q, u, h1, h2, h3, ⟨h4.1, notq hp h2 h4.2⟩, h5, h6, h7⟩
  | .scr ns, _, ⟨a, h1, h2⟩ => ⟨a, h1, h2.elim (fun h => .inl ⟨h.1, h.2.1, notp hp h.1 h.2.2⟩) .inr⟩
theorem Reps.add (hp : H p = none) : ∀ (ds : List D) {vs : List V}, Reps K Λ ι H ds vs → Reps K (Λ.add p) ι H ds vs
  | [], _, h => h
  | d :: ds, _, ⟨v, r, h1, h2, h3⟩ => ⟨v, r, h1, Rep.add hp d h2, Reps.add hp ds h3⟩
end
mutual
theorem Rep.sub : ∀ (d : D) {v : V}, Rep K (Λ.add p) ι H d v → Rep K Λ ι H d v
  | .non, _, h => h
  | .bl _, _, h => h
  | .int _, _, h => h
  | .str _, _, h => h
  | .tup xs, _, ⟨a, vs, h1, h2, h3⟩ => ⟨a, vs, h1, h2.elim (fun h => .inl ⟨h.1, h.2.1, fun z => h.2.2 (List.mem_cons_of_mem _ z)⟩) .inr, Reps.sub xs h3⟩
  | .lst xs, _, ⟨a, vs, h1, h2, h3⟩ => ⟨a, vs, h1, ⟨h2.1, h2.2.1, fun z => h2.2.2 (List.mem_cons_of_mem _ z)⟩, Reps.sub xs h3⟩
  | .dct ks xs, _, ⟨a, kvs, h1, h2, h3, h4, h5⟩ => ⟨a, kvs, h1, h2, ⟨h3.1, fun z => h3.2 (List.mem_cons_of_mem _ z)⟩, h4, Reps.sub xs h5⟩
  | .ref n, _, h => h
  | .lam n, _, ⟨a, c, q, u, h1, h2, h3, h4, h5, h6, h7⟩ => ⟨a, c, q, u, h1, h2, h3, ⟨h4.1, fun z => h4.2 (List.mem_cons_of_mem _ z)⟩, h5, h6, h7⟩
  | .scr ns, _, ⟨a, h1, h2⟩ => ⟨a, h1, h2.elim (fun h => .inl ⟨h.1, h.2.1, fun z => h.2.2 (List.mem_cons_of_mem _ z)⟩) .inr⟩
theorem Reps.sub : ∀ (ds : List D) {vs : List V}, Reps K (Λ.add p) ι H ds vs → Reps K Λ ι H ds vs
  | [], _, h => h
  | d :: ds, _, ⟨v, r, h1, h2, h3⟩ => ⟨v, r, h1, Rep.sub d h2, Reps.sub ds h3⟩
end
end
section
variable {g : Gb} {Λ : Lr} {ι : List Addr} {H : Hp} {μ : Sto} {p : Addr} {o o' : HO} {σ : St} {ρ : En}
theorem ObjR.out (hp : p ∈ Λ.av) (hq : ∀ c q, H p ≠ some (LamX.CodeO c q)) {so : SO} {a : Addr} (hk : a ≠ p) (h : ObjR g Λ ι H so a) : ObjR g Λ ι (upd H p o) so a := by
  have hp' : p ∈ Λ.pure.av := hp
  cases so with
  | lst xs => obtain ⟨vs, h3, h4⟩ := h; exact ⟨vs, by rw [upd_ne hk]; exact h3, Reps.out hp' hq xs h4⟩
  | dct ks xs => obtain ⟨vs, h3, h5, h4⟩ := h; exact ⟨vs, by rw [upd_ne hk]; exact h3, h5, Reps.out hp' hq xs h4⟩
  | ins c fs xs => obtain ⟨dx, vs, h3, h4, h5, h6, h7⟩ := h; exact ⟨dx, vs, by rw [upd_ne hk]; exact h3, h4, by rw [upd_ne (fun z => h4.2 (by rw [z]; exact hp))]; exact h5, h6, Reps.out hp' hq xs h7⟩
theorem TabS.out {P : Addr} {q : Str} (hc : ∀ c, u = LamX.CodeO c q → False) (h0 : H p = some u) (nt : ∀ ps, u ≠ .tbl ps) (t : LamX.TabS H P q) : LamX.TabS (upd H p o) P q := by
  obtain ⟨ps, h1, h2, h3⟩ := t
  refine ⟨ps, ?_, h2, fun pos cv hc' => ?_⟩
  · rw [upd_ne (fun z => by rw [z, h0] at h1; exact nt ps (Option.some.inj h1))]; exact h1
  · obtain ⟨c, e1, e2⟩ := h3 pos cv hc'
    exact ⟨c, e1, by rw [upd_ne (fun z => by rw [z, h0] at e2; exact hc p (Option.some.inj e2))]; exact e2⟩
theorem MR.out (m : MR g Λ ι H μ) (hp : p ∈ Λ.av) (hi : p ∉ ι) (h0 : H p = some u) (nt : ∀ ps, u ≠ .tbl ps) (hc : ∀ c q, u = LamX.CodeO c q → False) (no : ∀ ps, o ≠ .tbl ps) : MR g Λ ι (upd H p o) μ := by
  refine ⟨m.len, m.nd, fun n so q => ?_, fun t ht => TabS.out (fun c z => hc c _ z) h0 nt (m.tabs t ht), fun a ha => ?_⟩
  · obtain ⟨a, h1, h2⟩ := m.ob n so q
    exact ⟨a, h1, h2.out hp (fun c q z => hc c q (Option.some.inj (h0.symm.trans z))) fun z => hi (by rw [← z]; exact List.mem_of_getElem? h1)⟩
  · by_cases z : a = p
    · rw [z]; exact fun n => n.no upd_same no
    · intro n
      refine m.avs a ha fun o e => n o ?_
      rw [upd_ne z]
      exact e
theorem MR.add (m : MR g Λ ι H μ) (hp : H p = none) (no : ∀ ps, o ≠ .tbl ps) : MR g (Λ.add p) ι (upd H p o) μ := by
  have s : Sam H (upd H p o) := sam_upd hp
  refine ⟨m.len, m.nd, fun n so q => ?_, m.tabs.ext s, fun a ha => ?_⟩
  · obtain ⟨a, h1, h2⟩ := m.ob n so q
    refine ⟨a, h1, ObjR.sam s ?_⟩
    cases so with
    | lst xs => obtain ⟨vs, h3, h4⟩ := h2; exact ⟨vs, h3, Reps.add (Λ := Λ.pure) hp xs h4⟩
    | dct ks xs => obtain ⟨vs, h3, h5, h4⟩ := h2; exact ⟨vs, h3, h5, Reps.add (Λ := Λ.pure) hp xs h4⟩
    | ins c fs xs => obtain ⟨dx, vs, h3, h4, h5, h6, h7⟩ := h2; exact ⟨dx, vs, h3, ⟨h4.1, notq hp h5 h4.2⟩, h5, h6, Reps.add (Λ := Λ.pure) hp xs h7⟩
  · rcases List.mem_cons.mp ha with z | z
    · rw [z]; exact fun n => n.no upd_same no
    · exact fun n => m.avs a z ((Ext.of_sam (ι := []) s).nt a n)
theorem MR.sub (m : MR g (Λ.add p) ι H μ) : MR g Λ ι H μ := ⟨m.len, m.nd, fun n so q => by
  obtain ⟨a, h1, h2⟩ := m.ob n so q
  refine ⟨a, h1, ?_⟩
  cases so with
  | lst xs => obtain ⟨vs, h3, h4⟩ := h2; exact ⟨vs, h3, Reps.sub (Λ := Λ.pure) xs h4⟩
  | dct ks xs => obtain ⟨vs, h3, h5, h4⟩ := h2; exact ⟨vs, h3, h5, Reps.sub (Λ := Λ.pure) xs h4⟩
  | ins c fs xs => obtain ⟨dx, vs, h3, h4, h5, h6, h7⟩ := h2; exact ⟨dx, vs, h3, ⟨h4.1, fun z => h4.2 (List.mem_cons_of_mem _ z)⟩, h5, h6, Reps.sub (Λ := Λ.pure) xs h7⟩, m.tabs, fun a ha => m.avs a (List.mem_cons_of_mem _ ha)⟩
theorem LR.add (l : LR g Λ ι H σ ρ) (hp : H p = none) : LR g (Λ.add p) ι (upd H p o) σ ρ := ⟨l.len, fun i d q => by
  obtain ⟨v, h1, h2⟩ := l.at_ i d q
  exact ⟨v, h1, Rep.ext (.of_sam (sam_upd hp)) d (Rep.add hp d h2)⟩⟩
theorem LR.sub (l : LR g (Λ.add p) ι H σ ρ) : LR g Λ ι H σ ρ := ⟨l.len, fun i d q => by
  obtain ⟨v, h1, h2⟩ := l.at_ i d q
  exact ⟨v, h1, Rep.sub d h2⟩⟩
theorem LR.out (l : LR g Λ ι H σ ρ) (hp : p ∈ Λ.av) (hq : ∀ c q, H p ≠ some (LamX.CodeO c q)) : LR g Λ ι (upd H p o) σ ρ := ⟨l.len, fun i d q => by
  obtain ⟨v, h1, h2⟩ := l.at_ i d q
  exact ⟨v, h1, Rep.out hp hq d h2⟩⟩
end
end Mi

set_option Elab.async false
set_option linter.all false
set_option maxRecDepth 100000
set_option maxHeartbeats 4000000
namespace Mi
open PySem L2

/-! ### statements -/
inductive SOut where
  | nx (ρ : En) (m : Sto) | rt (d : D) (m : Sto) | ex (c : Str) (ρ : En) (m : Sto) | bk (ρ : En) (m : Sto) | ct (ρ : En) (m : Sto)
abbrev Cs := En → Sto → Option SOut
@[simp] def obS {α : Type} (r : Option (Out α)) (ρ : En) (kk : α → Sto → Option SOut) : Option SOut := match r with
  | some (.ok a m) => kk a m
  | some (.exc c m) => some (.ex c ρ m)
  | none => none
def cSeq (f1 f2 : Cs) : Cs := fun ρ μ => match f1 ρ μ with
  | some (.nx ρ1 μ1) => f2 ρ1 μ1
  | r => r
def cNop : Cs := fun ρ μ => some (.nx ρ μ)
def cStuck : Cs := fun _ _ => none
def cExp (f : Cb D) : Cs := fun ρ μ => obS (f ρ μ) ρ fun _ μ1 => some (.nx ρ μ1)
def cRet (f : Cb D) : Cs := fun ρ μ => obS (f ρ μ) ρ fun d μ1 => some (.rt d μ1)
def cRetN : Cs := fun _ μ => some (.rt .non μ)
def cIf (t : Cb Bool) (f1 f2 : Cs) : Cs := fun ρ μ => obS (t ρ μ) ρ fun b μ1 => if b then f1 ρ μ1 else f2 ρ μ1
def cSet (i : Nat) (f : Cb D) : Cs := fun ρ μ => obS (f ρ μ) ρ fun d μ1 => some (.nx (ρ.set i (some d)) μ1)
def cPar2 (i j : Nat) (f : Cb (List D)) : Cs := fun ρ μ => obS (f ρ μ) ρ fun ds μ1 => match ds with
  | [d, e] => some (.nx ((ρ.set i (some d)).set j (some e)) μ1)
  | _ => none
def cPar3 (i j l : Nat) (f : Cb (List D)) : Cs := fun ρ μ => obS (f ρ μ) ρ fun ds μ1 => match ds with
  | [d, e, f] => some (.nx (((ρ.set i (some d)).set j (some e)).set l (some f)) μ1)
  | _ => none
abbrev Tg := D → En → Sto → Option (En × Sto)
def tgName (i : Nat) : Tg := fun d ρ μ => some (ρ.set i (some d), μ)
def tgs : List Tg → List D → En → Sto → Option (En × Sto)
  | [], [] => fun ρ μ => some (ρ, μ)
  | t :: ts, d :: ds => fun ρ μ => match t d ρ μ with
    | some (ρ1, μ1) => tgs ts ds ρ1 μ1
    | none => none
  | _, _ => fun _ _ => none
def tgTup (ts : List Tg) : Tg := fun d ρ μ => match d with
  | .tup xs => tgs ts xs ρ μ
  | _ => none
def tgSub (fo fi : Cb D) : Tg := fun d ρ μ => match fo ρ μ with
  | some (.ok (.ref n) μ1) => match fi ρ μ1 with
    | some (.ok (.int i) μ2) => match μ2[n]? with
      | some (.lst xs) => match ixN xs.length i with
        | some j => if lamf d = true then some (ρ, μ2.set n (.lst (xs.set j d))) else none
        | none => none
      | _ => none
    | _ => none
  | _ => none
def cAsg (f : Cb D) (t : Tg) : Cs := fun ρ μ => obS (f ρ μ) ρ fun d μ1 => match t d ρ μ1 with
  | some (ρ2, μ2) => some (.nx ρ2 μ2)
  | none => none
def cAug (i : Nat) (o : Sto → D → D → Option (D × Sto)) (f : Cb D) : Cs := fun ρ μ => match ρ[i]? with
  | some (some x) => obS (f ρ μ) ρ fun y μ1 => match o μ1 x y with
    | some (z, μ2) => some (.nx (ρ.set i (some z)) μ2)
    | none => none
  | _ => none
def cRaise (c : Str) : Cs := fun ρ μ => some (.ex c ρ μ)
def wl (t : Cb Bool) (b : Cs) : Nat → Cs
  | 0 => fun _ _ => none
  | n + 1 => fun ρ μ => obS (t ρ μ) ρ fun c μ1 => if c = true then (match b ρ μ1 with
    | some (.nx ρ2 μ2) => wl t b n ρ2 μ2
    | some (.ct ρ2 μ2) => wl t b n ρ2 μ2
    | some (.bk ρ2 μ2) => some (.nx ρ2 μ2)
    | r => r) else some (.nx ρ μ1)
def cWhile (n : Nat) (t : Cb Bool) (b : Cs) : Cs := wl t b n
def fl (t : Tg) (b : Cs) : List D → Cs
  | [] => fun ρ μ => some (.nx ρ μ)
  | d :: ds => fun ρ μ => match t d ρ μ with
    | some (ρ1, μ1) => (match b ρ1 μ1 with
      | some (.nx ρ2 μ2) => fl t b ds ρ2 μ2
      | some (.ct ρ2 μ2) => fl t b ds ρ2 μ2
      | some (.bk ρ2 μ2) => some (.nx ρ2 μ2)
      | r => r)
    | none => none
def cFor (f : Cb (List D)) (t : Tg) (b : Cs) : Cs := fun ρ μ => obS (f ρ μ) ρ fun ds μ1 => fl t b ds ρ μ1

def PostS (g : Gb) (Λ : Lr) (W : WX) (ι : List Addr) (H : Hp) (r : SOut) (E : Ends) : Prop := match r with
  | .nx ρ' μ' => ∀ ι' H' σ', Ext ι H ι' H' → MR g Λ ι' H' μ' → LR g Λ ι' H' σ' ρ' → E.nx σ' H'
  | .rt d μ' => ∀ ι' H' v, Ext ι H ι' H' → MR g Λ ι' H' μ' → Rep g.K Λ ι' H' d v → E.rt v H'
  | .ex c ρ' μ' => ∀ ι' H' σ', Ext ι H ι' H' → MR g Λ ι' H' μ' → LR g Λ ι' H' σ' ρ' → W (.ref (g.cls c)) none σ' H'
  | .bk ρ' μ' => ∀ ι' H' σ', Ext ι H ι' H' → MR g Λ ι' H' μ' → LR g Λ ι' H' σ' ρ' → E.bk σ' H'
  | .ct ρ' μ' => ∀ ι' H' σ', Ext ι H ι' H' → MR g Λ ι' H' μ' → LR g Λ ι' H' σ' ρ' → E.ct σ' H'
def rdS (g : Gb) (Λ : Lr) (W : WX) (f : Cs) : TS := fun E σ H => ∃ ι ρ μ r, LR g Λ ι H σ ρ ∧ MR g Λ ι H μ ∧ f ρ μ = some r ∧ PostS g Λ W ι H r E
def DS (g : Gb) (k : Nat) (Λ : Lr) (X : Cx) (W : WX) (st : Stmt) (f : Cs) : Prop := XOk g k X → Takes X W → PS X st (rdS g Λ W f)
def DSs (g : Gb) (k : Nat) (Λ : Lr) (X : Cx) (W : WX) (st : List Stmt) (f : Cs) : Prop := XOk g k X → Takes X W → PSs X st (rdS g Λ W f)
theorem PS.imp {X : Cx} {e : Stmt} {t u : TS} (h : PS X e t) (i : ∀ σ H Q, u σ H Q → t σ H Q) : PS X e u := ⟨fun pins s σ H Q I q => h.run pins s σ H Q I (i Q σ H q)⟩
theorem PSs.imp {X : Cx} {e : List Stmt} {t u : TS} (h : PSs X e t) (i : ∀ σ H Q, u σ H Q → t σ H Q) : PSs X e u := ⟨fun pins s σ H Q I q => h.run pins s σ H Q I (i Q σ H q)⟩
def rdG (g : Gb) (Λ : Lr) (vs : List Nat) (t : Tg) : TG := fun v σ H Q => ∃ ι ρ μ d ρ' μ', LR g Λ ι H σ ρ ∧ MR g Λ ι H μ ∧ Rep g.K Λ ι H d v ∧ t d ρ μ = some (ρ', μ') ∧ ∀ ι' H' σ', Ext ι H ι' H' → MR g Λ ι' H' μ' → LR g Λ ι' H' σ' ρ' → wipe σ' vs = wipe σ vs → Q σ' H'
def DG (g : Gb) (k : Nat) (Λ : Lr) (X : Cx) (W : WX) (vs : List Nat) (tg : Expr) (t : Tg) : Prop := XOk g k X → Takes X W → PG X tg (rdG g Λ vs t)
def rdGs (g : Gb) (Λ : Lr) (vs : List Nat) (t : List Tg) : TGs := fun us σ H Q => ∃ ι ρ μ ds ρ' μ', LR g Λ ι H σ ρ ∧ MR g Λ ι H μ ∧ Reps g.K Λ ι H ds us ∧ tgs t ds ρ μ = some (ρ', μ') ∧ ∀ ι' H' σ', Ext ι H ι' H' → MR g Λ ι' H' μ' → LR g Λ ι' H' σ' ρ' → wipe σ' vs = wipe σ vs → Q σ' H'
def DGs (g : Gb) (k : Nat) (Λ : Lr) (X : Cx) (W : WX) (vs : List Nat) (tg : List Expr) (t : List Tg) : Prop := XOk g k X → Takes X W → PGs X tg (rdGs g Λ vs t)
theorem PG.imp {X : Cx} {e : Expr} {t u : TG} (h : PG X e t) (i : ∀ v σ H Q, u v σ H Q → t v σ H Q) : PG X e u := ⟨fun pins s σ H v uu Q I r q => h.run pins s σ H v uu Q I r (i v σ H Q q)⟩
theorem PGs.imp {X : Cx} {e : List Expr} {t u : TGs} (h : PGs X e t) (i : ∀ v σ H Q, u v σ H Q → t v σ H Q) : PGs X e u := ⟨fun pins s σ H v uu Q I r q => h.run pins s σ H v uu Q I r (i v σ H Q q)⟩

section
variable {g : Gb} {k : Nat} {Λ : Lr} {X : Cx} {W : WX}
section
variable {ι : List Addr} {H : Hp} {σ : St} {ρ : En} {μ : Sto} {r : SOut} {E : Ends}
theorem PostS.ext {ι' H'} (p : PostS g Λ W ι H r E) (e : Ext ι H ι' H') : PostS g Λ W ι' H' r E := by
  cases r with
  | nx _ _ => exact fun ι2 H2 v2 e2 => p ι2 H2 v2 (e.trans e2)
  | rt _ _ => exact fun ι2 H2 v2 e2 => p ι2 H2 v2 (e.trans e2)
  | ex _ _ _ => exact fun ι2 H2 v2 e2 => p ι2 H2 v2 (e.trans e2)
  | bk _ _ => exact fun ι2 H2 v2 e2 => p ι2 H2 v2 (e.trans e2)
  | ct _ _ => exact fun ι2 H2 v2 e2 => p ι2 H2 v2 (e.trans e2)
theorem goS_E {f : Cb D} {kk : D → Sto → Option SOut} {R : VK} (l : LR g Λ ι H σ ρ) (m : MR g Λ ι H μ) (h : obS (f ρ μ) ρ kk = some r) (p : PostS g Λ W ι H r E)
    (go : ∀ d μ1 ι1 H1 v, f ρ μ = some (.ok d μ1) → kk d μ1 = some r → Ext ι H ι1 H1 → MR g Λ ι1 H1 μ1 → LR g Λ ι1 H1 σ ρ → Rep g.K Λ ι1 H1 d v → R v H1) : rdE g Λ W f σ H R := by
  cases q : f ρ μ with
  | none => rw [q] at h; cases h
  | some o =>
    refine ⟨ι, ρ, μ, o, l, m, q, ?_⟩
    cases o with
    | ok d μ1 => rw [q] at h; exact fun ι1 H1 v e m1 r1 => go d μ1 ι1 H1 v q h e m1 (l.ext e) r1
    | exc c μ1 =>
      rw [q] at h
      cases (show some (SOut.ex c ρ μ1) = some r from h)
      exact fun ι' H' e m' => p ι' H' σ e m' (l.ext e)
theorem goS_T {f : Cb Bool} {kk : Bool → Sto → Option SOut} {R : Bool → Hp → Prop} (l : LR g Λ ι H σ ρ) (m : MR g Λ ι H μ) (h : obS (f ρ μ) ρ kk = some r) (p : PostS g Λ W ι H r E)
    (go : ∀ d μ1 ι1 H1, f ρ μ = some (.ok d μ1) → kk d μ1 = some r → Ext ι H ι1 H1 → MR g Λ ι1 H1 μ1 → LR g Λ ι1 H1 σ ρ → R d H1) : rdT g Λ W f σ H R := by
  cases q : f ρ μ with
  | none => rw [q] at h; cases h
  | some o =>
    refine ⟨ι, ρ, μ, o, l, m, q, ?_⟩
    cases o with
    | ok d μ1 => rw [q] at h; exact fun ι1 H1 e m1 => go d μ1 ι1 H1 q h e m1 (l.ext e)
    | exc c μ1 =>
      rw [q] at h
      cases (show some (SOut.ex c ρ μ1) = some r from h)
      exact fun ι' H' e m' => p ι' H' σ e m' (l.ext e)
theorem goS_A {f : Cb (List D)} {kk : List D → Sto → Option SOut} {R : List V → Hp → Prop} (l : LR g Λ ι H σ ρ) (m : MR g Λ ι H μ) (h : obS (f ρ μ) ρ kk = some r) (p : PostS g Λ W ι H r E)
    (go : ∀ ds μ1 ι1 H1 vs, f ρ μ = some (.ok ds μ1) → kk ds μ1 = some r → Ext ι H ι1 H1 → MR g Λ ι1 H1 μ1 → LR g Λ ι1 H1 σ ρ → Reps g.K Λ ι1 H1 ds vs → R vs H1) : rdA g Λ W f σ H R := by
  cases q : f ρ μ with
  | none => rw [q] at h; cases h
  | some o =>
    refine ⟨ι, ρ, μ, o, l, m, q, ?_⟩
    cases o with
    | ok d μ1 => rw [q] at h; exact fun ι1 H1 vs e m1 r1 => go d μ1 ι1 H1 vs q h e m1 (l.ext e) r1
    | exc c μ1 =>
      rw [q] at h
      cases (show some (SOut.ex c ρ μ1) = some r from h)
      exact fun ι' H' e m' => p ι' H' σ e m' (l.ext e)
end
variable {vs : List Nat} {a b c : Expr} {fa fb fc : Cb D} {pos pos' : Pos} {st : Stmt} {sts sts' : List Stmt} {f f1 f2 : Cs} {es : List Expr} {fs : Cb (List D)} {ta : Cb Bool}
theorem ds_stuck : DS g k Λ X W st cStuck := fun _ _ => ⟨fun _ _ _ _ _ _ ⟨_, _, _, _, _, _, e, _⟩ => by cases e⟩
theorem dss_nil : DSs g k Λ X W [] cNop := fun ok tk => PSs.imp pss_nil fun E σ H ⟨ι, ρ, μ, r, l, m, e, p⟩ => by cases e; exact p ι H σ (.refl _ _) m l
theorem dss_one (h : DS g k Λ X W st f) : DSs g k Λ X W [st] f := fun ok tk => pss_one (h ok tk)
theorem dss_cons (h : DS g k Λ X W st f1) (h2 : DSs g k Λ X W sts f2) : DSs g k Λ X W (st :: sts) (cSeq f1 f2) := fun ok tk => PSs.imp (pss_cons (h ok tk) (h2 ok tk)) fun E σ H ⟨ι, ρ, μ, r, l, m, e, p⟩ => by
  unfold cSeq at e
  split at e
  · rename_i ρ1 μ1 q
    exact ⟨ι, ρ, μ, _, l, m, q, fun ι1 H1 σ1 e1 m1 l1 => ⟨ι1, ρ1, μ1, r, l1, m1, e, p.ext e1⟩⟩
  · rename_i hn
    refine ⟨ι, ρ, μ, r, l, m, e, ?_⟩
    cases r with
    | nx ρ' μ' => exact absurd e (hn ρ' μ')
    | rt _ _ => exact p
    | ex _ _ _ => exact p
    | bk _ _ => exact p
    | ct _ _ => exact p
theorem ds_pass : DS g k Λ X W (.Pass pos) cNop := fun ok tk => PS.imp ps_pass fun E σ H ⟨ι, ρ, μ, r, l, m, e, p⟩ => by cases e; exact p ι H σ (.refl _ _) m l
theorem ds_expr (ha : DE g k Λ X W a fa) (hs : swapsWith a none pos.line X.env = pure false := by rfl) : DS g k Λ X W (.Expr a pos) (cExp fa) := fun ok tk => PS.imp (ps_expr (ha ok tk) hs) fun E σ H ⟨ι, ρ, μ, r, l, m, e, p⟩ =>
  goS_E l m e p fun d μ1 ι1 H1 v e1 e2 x1 m1 l1 r1 => by cases e2; exact p ι1 H1 σ x1 m1 l1
theorem ds_ret (ha : DE g k Λ X W a fa) : DS g k Λ X W (.Return (some a) pos) (cRet fa) := fun ok tk => PS.imp (ps_ret (ha ok tk)) fun E σ H ⟨ι, ρ, μ, r, l, m, e, p⟩ =>
  goS_E l m e p fun d μ1 ι1 H1 v e1 e2 x1 m1 l1 r1 => by cases e2; exact p ι1 H1 v x1 m1 r1
theorem ds_retN : DS g k Λ X W (.Return none pos) cRetN := fun ok tk => PS.imp ps_retN fun E σ H ⟨ι, ρ, μ, r, l, m, e, p⟩ => by cases e; exact p ι H .non (.refl _ _) m rfl
theorem ds_if (hc : DT g k Λ X W c ta) (h1 : DSs g k Λ X W sts f1) (h2 : DSs g k Λ X W sts' f2) : DS g k Λ X W (.If c sts sts' pos) (cIf ta f1 f2) := fun ok tk => PS.imp (ps_if (hc ok tk) (h1 ok tk) (h2 ok tk)) fun E σ H ⟨ι, ρ, μ, r, l, m, e, p⟩ =>
  goS_T l m e p fun d μ1 ι1 H1 e1 e2 x1 m1 l1 => by
    cases d with
    | true => exact ⟨ι1, ρ, μ1, r, l1, m1, e2, p.ext x1⟩
    | false => exact ⟨ι1, ρ, μ1, r, l1, m1, e2, p.ext x1⟩
theorem ds_set (i : Nat) {x : Str} (ha : DE g k Λ X W a fa) (hi : X.N[i]? = some x := by rfl) (hx : Loc X.env.scope x := by first | exact Or.inl rfl | exact Or.inr rfl) (hs : swapsWith a (some (.Name x pos')) pos.line X.env = pure false := by rfl) (hf : X.fn x = true ∨ X.env.scope.names.lookup x = some .local := by first | exact Or.inl rfl | exact Or.inr rfl) :
    DS g k Λ X W (.Assign [.Name x pos'] a pos) (cSet i fa) := fun ok tk => PS.imp (ps_set ok.nd hi hx (ha ok tk) hs hf) fun E σ H ⟨ι, ρ, μ, r, l, m, e, p⟩ =>
  goS_E l m e p fun d μ1 ι1 H1 v e1 e2 x1 m1 l1 r1 => by cases e2; exact p ι1 H1 _ x1 m1 (l1.set r1 i)
theorem ds_par2 (i j : Nat) {x y : Str} {px py pt pt2 : Pos} {kt k2 : Nat} (ha : DA g k Λ X W [a, b] fs) (hi : X.N[i]? = some x := by rfl) (hj : X.N[j]? = some y := by rfl) (hij : i ≠ j := by decide) (hx : X.env.scope.names.lookup x = some .local := by rfl) (hy : X.env.scope.names.lookup y = some .local := by rfl)
    (hw : swappedStores [.Tuple [.Name x px, .Name y py] kt pt] (.Tuple [a, b] k2 pt2) X.env = pure (some [x, y]) := by rfl) (hs : swapsWithSole [.Tuple [.Name x px, .Name y py] kt pt] (.Tuple [a, b] k2 pt2) pos.line X.env = pure false := by rfl) :
    DS g k Λ X W (.Assign [.Tuple [.Name x px, .Name y py] kt pt] (.Tuple [a, b] k2 pt2) pos) (cPar2 i j fs) := fun ok tk => PS.imp (ps_par ok.calm ok.nd hi hj hij hx hy (ha ok tk) hw hs) fun E σ H ⟨ι, ρ, μ, r, l, m, e, p⟩ =>
  goS_A l m e p fun ds μ1 ι1 H1 us e1 e2 x1 m1 l1 r1 => by
    split at e2
    · cases e2
      obtain ⟨v, u, rfl, rv, ru⟩ := r1.inv2
      exact ⟨v, u, rfl, p ι1 H1 _ x1 m1 ((l1.set rv i).set ru j)⟩
    · cases e2
theorem Reps.inv3 {K Λ ι H} {d e f : D} {vs : List V} (h : Reps K Λ ι H [d, e, f] vs) : ∃ v u w, vs = [v, u, w] ∧ Rep K Λ ι H d v ∧ Rep K Λ ι H e u ∧ Rep K Λ ι H f w := by
  obtain ⟨v, r, h1, h2, h3⟩ := h
  obtain ⟨u, w, q1, q2, q3⟩ := Reps.inv2 h3
  exact ⟨v, u, w, by rw [h1, q1], h2, q2, q3⟩
theorem ds_par3 (i j h : Nat) {x y z : Str} {px py pz pt pt2 : Pos} {kt k2 : Nat} (ha : DA g k Λ X W [a, b, c] fs) (hi : X.N[i]? = some x := by rfl) (hj : X.N[j]? = some y := by rfl) (hl : X.N[h]? = some z := by rfl) (hij : i ≠ j := by decide) (hil : i ≠ h := by decide) (hjl : j ≠ h := by decide)
    (hx : X.env.scope.names.lookup x = some .local := by rfl) (hy : X.env.scope.names.lookup y = some .local := by rfl) (hz : X.env.scope.names.lookup z = some .local := by rfl)
    (hw : swappedStores [.Tuple [.Name x px, .Name y py, .Name z pz] kt pt] (.Tuple [a, b, c] k2 pt2) X.env = pure (some [x, y, z]) := by rfl) (hs : swapsWithSole [.Tuple [.Name x px, .Name y py, .Name z pz] kt pt] (.Tuple [a, b, c] k2 pt2) pos.line X.env = pure false := by rfl) :
    DS g k Λ X W (.Assign [.Tuple [.Name x px, .Name y py, .Name z pz] kt pt] (.Tuple [a, b, c] k2 pt2) pos) (cPar3 i j h fs) := fun ok tk => PS.imp (ps_par3 ok.calm ok.nd hi hj hl hij hil hjl hx hy hz (ha ok tk) hw hs) fun E σ H ⟨ι, ρ, μ, r, l, m, e, p⟩ =>
  goS_A l m e p fun ds μ1 ι1 H1 us e1 e2 x1 m1 l1 r1 => by
    split at e2
    · cases e2
      obtain ⟨v, u, w, rfl, rv, ru, rw'⟩ := r1.inv3
      exact ⟨v, u, w, rfl, p ι1 H1 _ x1 m1 (((l1.set rv i).set ru j).set rw' h)⟩
    · cases e2
/-! targets -/
theorem wipe_set (σ : St) (i : Nat) (x : V) : ∀ vs : List Nat, (wipe (σ.set i (some x)) vs).set i none = (wipe σ vs).set i none
  | [] => by simp [wipe]
  | v :: vs => by
    unfold wipe
    by_cases e : v = i
    · subst e
      rw [List.set_set, List.set_set, wipe_set σ v x vs]
    · rw [List.set_comm _ _ e, List.set_comm _ _ e, wipe_set σ i x vs]
theorem wipe_at (σ : St) (i : Nat) (x : V) : ∀ vs : List Nat, i ∈ vs → wipe (σ.set i (some x)) vs = wipe σ vs
  | [], h => by cases h
  | v :: vs, h => by
    unfold wipe
    by_cases e : i = v
    · subst e
      by_cases h2 : i ∈ vs
      · rw [wipe_at σ i x vs h2]
      · exact wipe_set σ i x vs
    · rw [wipe_at σ i x vs ((List.mem_cons.mp h).resolve_left e)]
theorem dg_name (i : Nat) {x : Str} (hv : i ∈ vs := by decide) (hi : X.N[i]? = some x := by rfl) (hx : Loc X.env.scope x := by first | exact Or.inl rfl | exact Or.inr rfl) (hf : X.fn x = true ∨ X.env.scope.names.lookup x = some .local := by first | exact Or.inl rfl | exact Or.inr rfl) : DG g k Λ X W vs (.Name x pos) (tgName i) := fun ok tk =>
  PG.imp (pg_name ok.nd hi hx hf) fun v σ H Q ⟨ι, ρ, μ, d, ρ', μ', l, m, r, e, p⟩ => by
    cases e
    exact p ι H _ (.refl _ _) m (l.set r i) (wipe_at _ _ _ _ hv)
theorem dgs_nil : DGs g k Λ X W vs [] [] := fun ok tk => PGs.imp pgs_nil fun v σ H Q ⟨ι, ρ, μ, ds, ρ', μ', l, m, r, e, p⟩ => by
  cases ds with
  | nil => cases e; cases (show v = [] from r); exact ⟨rfl, p ι H σ (.refl _ _) m l rfl⟩
  | cons _ _ => cases e
theorem dgs_cons {t : Tg} {ts : List Tg} (h : DG g k Λ X W vs a t) (h2 : DGs g k Λ X W vs es ts) (hs : (assignEach (a :: es) X.env).map (·.2) = assign a X.env :: (assignEach es X.env).map (·.2) := by rfl) : DGs g k Λ X W vs (a :: es) (t :: ts) := fun ok tk =>
  PGs.imp (pgs_cons (h ok tk) (h2 ok tk) hs) fun v σ H Q ⟨ι, ρ, μ, ds, ρ', μ', l, m, r, e, p⟩ => by
    cases ds with
    | nil => cases e
    | cons d ds =>
      obtain ⟨v1, vr, rfl, r1, r2⟩ := r
      have e : (match t d ρ μ with | some (ρ1, μ1) => tgs ts ds ρ1 μ1 | none => none) = some (ρ', μ') := e
      split at e
      · rename_i ρ1 μ1 q
        exact ⟨v1, vr, rfl, ι, ρ, μ, d, ρ1, μ1, l, m, r1, q, fun ι1 H1 σ1 x1 m1 l1 w1 => ⟨ι1, ρ1, μ1, ds, ρ', μ', l1, m1, Reps.ext x1 ds r2, e, fun ι2 H2 σ2 x2 m2 l2 w2 => p ι2 H2 σ2 (x1.trans x2) m2 l2 (w2.trans w1)⟩⟩
      · cases e
theorem tgs_len : ∀ {ts : List Tg} {ds : List D} {ρ ρ' : En} {μ μ' : Sto}, tgs ts ds ρ μ = some (ρ', μ') → ds.length = ts.length
  | [], [], _, _, _, _, _ => rfl
  | [], _ :: _, _, _, _, _, h => by cases h
  | _ :: _, [], _, _, _, _, h => by cases h
  | t :: ts, d :: ds, ρ, _, μ, _, h => by
    have h : (match t d ρ μ with | some (ρ1, μ1) => tgs ts ds ρ1 μ1 | none => none) = some _ := h
    split at h
    · rw [List.length_cons, List.length_cons, tgs_len h]
    · cases h
theorem dg_tup {ts : List Tg} {kk : Nat} (h : DGs g k Λ X W vs es ts) (hn : (assignEach es X.env).length = ts.length := by rfl) (hst : (assignEach es X.env).findIdx? (·.1) = none := by rfl) : DG g k Λ X W vs (.Tuple es kk pos) (tgTup ts) := fun ok tk =>
  PG.imp (pg_tup ok.calm (h ok tk) hn hst) fun v σ H Q ⟨ι, ρ, μ, d, ρ', μ', l, m, r, e, p⟩ => by
    unfold tgTup at e
    split at e
    · rename_i xs
      obtain ⟨a, vs, rfl, h2, h3⟩ := r
      exact ⟨a, vs, rfl, by rw [ok.K]; exact h2.sq, by rw [← h3.len]; exact tgs_len e, ι, ρ, μ, xs, ρ', μ', l, m, h3, e, p⟩
    · cases e
/-- a list of the store changes -/
theorem MR.set {ι : List Addr} {H : Hp} {μ : Sto} (m : MR g Λ ι H μ) {n : Nat} {ad : Addr} {u : SO} (hn : μ[n]? = some u) (ha : ι[n]? = some ad) {ds : List D} {vs : List V} (lf : lamfs ds = true) (r : Reps g.K Λ ι H ds vs) :
    Ext ι H ι (upd H ad (.lst vs)) ∧ MR g Λ ι (upd H ad (.lst vs)) (μ.set n (.lst ds)) := by
  have hm : ad ∈ ι := List.mem_of_getElem? ha
  have e : Ext ι H ι (upd H ad (.lst vs)) := ⟨⟨[], by simp, by simp⟩, fun b o h _ ni => by rw [upd_ne (fun z => ni (by rw [z]; exact hm))]; exact h, fun b h o eo => by
    by_cases z : b = ad
    · rw [z] at h
      exact (h.no upd_same (by intro ps z; cases z)).elim
    · exact h o (by rw [upd_ne z]; exact eo)⟩
  have nt : ∀ p ps, H p = some (.tbl ps) → p ≠ ad := fun p ps h z => by
    rw [z] at h
    rcases m.mem hm with ⟨_, q⟩ | ⟨_, q⟩ | ⟨_, _, _, q⟩ <;> rw [h] at q <;> cases q
  have nc : ∀ p q, H p = some (LamX.CodeO p q) → p ≠ ad := fun p q h z => by
    rw [z] at h
    unfold LamX.CodeO at h
    rcases m.mem hm with ⟨_, q⟩ | ⟨_, q⟩ | ⟨_, _, _, q⟩ <;> rw [h] at q <;> cases q
  refine ⟨e, ⟨by simp [m.len], m.nd, fun i so q => ?_, fun t ht => ?_, fun b hb h => m.avs b hb (e.nt b h)⟩⟩
  · by_cases hi : n = i
    · subst hi
      have hl : n < μ.length := (List.getElem?_eq_some_iff.mp hn).1
      rw [List.getElem?_set_self hl] at q
      cases q
      exact ⟨ad, ha, ⟨vs, upd_same, Reps.ext e ds (Reps.lam (Λ := Λ) (Λ' := Λ.pure) rfl ds lf r)⟩⟩
    · rw [List.getElem?_set_ne hi] at q
      obtain ⟨b, h1, h2⟩ := m.ob i so q
      have hb : b ≠ ad := fun z => hi ((List.getElem?_inj (List.getElem?_eq_some_iff.mp ha).1 m.nd).mp (by rw [ha, h1, z]))
      exact ⟨b, h1, h2.ext' e fun o h _ => by rw [upd_ne hb]; exact h⟩
  · obtain ⟨ps, h1, h2, h3⟩ := m.tabs t ht
    refine ⟨ps, by rw [upd_ne (nt _ ps h1)]; exact h1, h2, fun ps2 cv hc => ?_⟩
    obtain ⟨c, e1, e2⟩ := h3 ps2 cv hc
    exact ⟨c, e1, by rw [upd_ne (nc _ _ e2)]; exact e2⟩
end
end Mi

set_option Elab.async false
set_option linter.all false
set_option maxRecDepth 100000
set_option maxHeartbeats 4000000
namespace Mi
open PySem L2
section
variable {g : Gb} {k : Nat} {Λ : Lr} {X : Cx} {W : WX} {vs : List Nat} {a b c tg : Expr} {fa fb fc fo fi : Cb D} {pos pos' : Pos} {st : Stmt} {sts sts' : List Stmt} {f f1 f2 : Cs} {es : List Expr} {fs : Cb (List D)} {ta : Cb Bool} {t : Tg}
theorem lamfs_set {d : D} (h : lamf d = true) : ∀ {xs : List D} {j : Nat}, lamfs xs = true → lamfs (xs.set j d) = true
  | [], _, _ => rfl
  | x :: xs, 0, q => by
    simp only [lamfs, Bool.and_eq_true] at q
    simp only [List.set, lamfs, Bool.and_eq_true]
    exact ⟨h, q.2⟩
  | x :: xs, j + 1, q => by
    simp only [lamfs, Bool.and_eq_true] at q
    simp only [List.set, lamfs, Bool.and_eq_true]
    exact ⟨q.1, lamfs_set h q.2⟩
mutual
theorem pure_lamf {K : PySem.W.Frag} {Λ : Lr} {ι : List Addr} {H : Hp} : ∀ {d : D} {v : V}, Rep K Λ.pure ι H d v → lamf d = true
  | .non, _, _ => rfl
  | .bl _, _, _ => rfl
  | .int _, _, _ => rfl
  | .str _, _, _ => rfl
  | .tup xs, _, ⟨_, _, _, _, h⟩ => pure_lamfs h
  | .lst xs, _, ⟨_, _, _, _, h⟩ => pure_lamfs h
  | .dct ks xs, _, ⟨_, _, _, _, _, _, h⟩ => pure_lamfs h
  | .ref _, _, _ => rfl
  | .lam _, _, ⟨_, _, _, _, _, _, _, _, _, _, h⟩ => h.elim
  | .scr _, _, _ => rfl
theorem pure_lamfs {K : PySem.W.Frag} {Λ : Lr} {ι : List Addr} {H : Hp} : ∀ {ds : List D} {vs : List V}, Reps K Λ.pure ι H ds vs → lamfs ds = true
  | [], _, _ => rfl
  | d :: ds, _, ⟨_, _, _, h1, h2⟩ => by
    simp only [lamfs, Bool.and_eq_true]
    exact ⟨pure_lamf h1, pure_lamfs h2⟩
end
theorem dg_sub (ho : DE g k Λ X W a fo) (hi : DE g k Λ X W b fi) (hs : ∀ v, assign (.Subscript a b pos) X.env v = (do
      let ov ← holding [v] (eval a X.env)
      let iv ← holding [v, ov] (eval b X.env)
      standAt pos
      holding [v, ov, iv] (setItem ov iv v)
      release [v, ov, iv] []) := by intro _; rfl) : DG g k Λ X W vs (.Subscript a b pos) (tgSub fo fi) := fun ok tk =>
  PG.imp (pg_sub (ho ok tk) (hi ok tk) set_list hs) fun v σ H Q ⟨ι, ρ, μ, d, ρ', μ', l, m, r, e, p⟩ => by
    unfold tgSub at e
    split at e
    · rename_i n μ1 q1
      refine ⟨ι, ρ, μ, _, l, m, q1, fun ι1 H1 v1 x1 m1 r1 => ?_⟩
      split at e
      · rename_i i μ2 q2
        refine ⟨ι1, ρ, μ1, _, l.ext x1, m1, q2, fun ι2 H2 v2 x2 m2 r2 => ?_⟩
        split at e
        · rename_i xs q3
          split at e
          · rename_i j q4
            split at e
            · rename_i hl
              cases e
              obtain ⟨ad, rfl, ha⟩ := Rep.ext x2 (.ref n) r1
              cases r2
              obtain ⟨ad', h1, us, h2, h3⟩ := m2.ob n _ q3
              rw [ha] at h1
              cases h1
              have rs : Reps g.K Λ ι2 H2 (xs.set j d) (us.set j v) := Reps.set j (Reps.of_pure _ h3) (Rep.ext (x1.trans x2) d r)
              have lf : lamfs (xs.set j d) = true := lamfs_set hl (pure_lamfs h3)
              obtain ⟨y1, y2⟩ := m2.set q3 ha lf rs
              exact ⟨ad, us, i, j, rfl, rfl, h2, by rw [← h3.len]; exact q4, p ι2 _ σ ((x1.trans x2).trans y1) y2 (l.ext ((x1.trans x2).trans y1)) rfl⟩
            · cases e
          · cases e
        · cases e
      · cases e
    · cases e
theorem ds_asg (ha : DE g k Λ X W a fa) (ht : DG g k Λ X W vs tg t) (hs : swapsWithSole [tg] a pos.line X.env = pure false := by rfl) (hw : swappedStores [tg] a X.env = pure none := by rfl) (h1 : (assignEach [tg] X.env).map (·.2) = [assign tg X.env] := by rfl) :
    DS g k Λ X W (.Assign [tg] a pos) (cAsg fa t) := fun ok tk => PS.imp (ps_asg (ha ok tk) (ht ok tk) hs hw h1) fun E σ H ⟨ι, ρ, μ, r, l, m, e, p⟩ =>
  goS_E l m e p fun d μ1 ι1 H1 v e1 e2 x1 m1 l1 r1 => by
    split at e2
    · rename_i ρ2 μ2 q
      cases e2
      exact ⟨ι1, ρ, μ1, d, ρ2, μ2, l1, m1, r1, q, fun ι2 H2 σ2 x2 m2 l2 _ => p ι2 H2 σ2 (x1.trans x2) m2 l2⟩
    · cases e2
/-! op= -/
def DIp (g : Gb) (k : Nat) (Λ : Lr) (op : Operator) (o : Sto → D → D → Option (D × Sto)) : Prop := ∀ X, XOk g k X → PIp X op (fun x y H Q => ∃ ι μ a b d μ', MR g Λ ι H μ ∧ Rep g.K Λ ι H a x ∧ Rep g.K Λ ι H b y ∧ o μ a b = some (d, μ') ∧
  ∀ ι' H' v, Ext ι H ι' H' → MR g Λ ι' H' μ' → Rep g.K Λ ι' H' d v → Q v H')
def dIAdd (μ : Sto) (a b : D) : Option (D × Sto) := match a, b with
  | .int i, .int j => some (.int (i + j), μ)
  | .ref n, b => match μ[n]? with
    | some (.lst xs) => match vw μ b with
      | some ys => if xs.length + ys.length ≤ 16777216 ∧ lamfs (xs ++ ys) = true then some (.ref n, μ.set n (.lst (xs ++ ys))) else none
      | none => none
    | _ => none
  | .str x, .str y => if x.length + y.length ≤ 16777216 then some (.str (x ++ y), μ) else none
  | _, _ => none
def dISub (μ : Sto) (a b : D) : Option (D × Sto) := match a, b with
  | .int i, .int j => some (.int (i - j), μ)
  | _, _ => none
theorem iop_extR {X : Cx} : PIp X .Add (fun x y H Q => ∃ l b xs zs, x = .ref l ∧ y = .ref b ∧ H l = some (.lst xs) ∧ Rd H b (.lst zs) ∧ xs.length + zs.length ≤ sizeLine ∧ Q (.ref l) (upd H l (.lst (xs ++ zs)))) := by
  intro pins s σ H x y v u Q I rx ry ⟨l, b, xs, zs, e1, e2, hH, hB, hz, q⟩
  subst e1 e2
  cases rx
  cases ry
  obtain ⟨z, its, n, r, hl, e⟩ := I.lstM hH
  obtain ⟨z2, its2, n2, r2, hl2, e2⟩ := lstR I hB
  have hsz : its.toArray.size + its2.toArray.size ≤ sizeLine := by
    rw [List.size_toArray, List.size_toArray, ← hl, ← hl2]
    exact hz
  have hlong : ¬ (!its.toArray.isEmpty && Builtin.List.listTooLong (its.toArray.size + its2.toArray.size)) = true := by
    rw [notLongL hsz, Bool.and_false]
    decide
  refine iadd_road ⟨_, e, rfl⟩ ⟨_, e2, rfl⟩ (call_meets PySem.F.slot_list_iadd ⟨_, e, rfl⟩ PySem.F.entry_list_iadd (PySem.F.args_list_iadd_2 _ _)
    (AutoSeq1.list___iadd___list_list_0 l its.toArray n b its2.toArray n2 hlong (by rw [List.size_toArray]; omega) (Nat.le_succ_of_le hsz)) ⟨e, e2, ?_⟩)
  exact ⟨.ref l, _, I.lset (its' := its ++ its2) (t' := s.toks) hH e (by simp) (r.append r2) (by rw [List.length_append]; omega), rfl, q⟩
theorem dip_sub : DIp g k Λ .Sub dISub := by
  intro X ok pins s σ H x y v u Q I rx ry ⟨ι, μ, a, b, d, μ', m, ra, rb, e, q⟩
  unfold dISub at e
  split at e
  · cases e; cases ra; cases rb
    exact ip_sub pins s σ H _ _ v u Q I rx ry ⟨_, _, rfl, rfl, q ι H _ (.refl _ _) m rfl⟩
  · cases e
theorem dip_add : DIp g k Λ .Add dIAdd := by
  intro X ok pins s σ H x y v u Q I rx ry ⟨ι, μ, a, b, d, μ', m, ra, rb, e, q⟩
  unfold dIAdd at e
  split at e
  · cases e; cases ra; cases rb
    exact ip_add pins s σ H _ _ v u Q I rx ry ⟨_, _, rfl, rfl, q ι H _ (.refl _ _) m rfl⟩
  · split at e
    · rename_i xs q3
      split at e
      · rename_i ys hy
        split at e
        · rename_i hl
          cases e
          obtain ⟨ad, rfl, ha⟩ := ra
          obtain ⟨ad', h1, us, h2, h3⟩ := m.ob _ _ q3
          rw [ha] at h1
          cases h1
          obtain ⟨l2, ws, rfl, h4, h5⟩ := vw_rd m rb hy
          obtain ⟨y1, y2⟩ := m.set q3 ha hl.2 ((Reps.of_pure _ h3).app h5)
          refine iop_extR pins s σ H _ _ v u Q I rx ry ⟨ad, l2, us, ws, rfl, rfl, h2, h4, szl_le (by rw [← h3.len, ← h5.len]; exact hl.1), q ι _ _ y1 y2 ⟨ad, rfl, ha⟩⟩
        · cases e
      · cases e
    · cases e
  · split at e
    · rename_i hz
      cases e; cases ra; cases rb
      exact iop_add_str pins s σ H _ _ v u Q I rx ry ⟨_, _, rfl, rfl, szl_le hz, q ι H _ (.refl _ _) m rfl⟩
    · cases e
  · cases e
theorem ds_aug (i : Nat) {x : Str} {op : Operator} {o : Sto → D → D → Option (D × Sto)} (ho : DIp g k Λ op o) (ha : DE g k Λ X W a fa) (hi : X.N[i]? = some x := by rfl) (hx : Loc X.env.scope x := by first | exact Or.inl rfl | exact Or.inr rfl) (hf : X.fn x = true ∨ X.env.scope.names.lookup x = some .local := by first | exact Or.inl rfl | exact Or.inr rfl) :
    DS g k Λ X W (.AugAssign (.Name x pos') op a pos) (cAug i o fa) := fun ok tk => PS.imp (ps_aug ok.nd hi hx (ha ok tk) (ho X ok) hf) fun E σ H ⟨ι, ρ, μ, r, l, m, e, p⟩ => by
  unfold cAug at e
  split at e
  · rename_i d q
    obtain ⟨v, h1, h2⟩ := l.at_ i d q
    refine ⟨v, h1, goS_E l m e p fun d2 μ1 ι1 H1 v2 e1 e2 x1 m1 l1 r1 => ?_⟩
    split at e2
    · rename_i z μ2 q2
      cases e2
      exact ⟨ι1, μ1, d, d2, z, μ2, m1, Rep.ext x1 d h2, r1, q2, fun ι2 H2 v3 x2 m2 r2 => p ι2 H2 _ (x1.trans x2) m2 ((l1.ext x2).set r2 i)⟩
    · cases e2
  · cases e
/-- an own exception of the module -/
structure EC (g : Gb) (x : Str) : Prop where
  xP : PySem.W.excIn g.K (g.cls x) [.type "ValueError", .type "Exception", .type "BaseException", .type "object"] "ValueError.__new__" = true
  gP : g.mg x = some (.ref (g.cls x))
  kP : PySem.W.keepIn g.K (.ref (g.cls x)) = true
  bP : PySem.W.subIn g.K (.ref (g.cls x)) (.type "BaseException") = some true
  tP : PySem.W.typeIn g.K (.ref (g.cls x)) = some (.type "type")
theorem ds_raise {x m : Str} {j : Nat} {p1 p2 p3 : Pos} (ec : EC g x) (hg : Gl X x := by rfl) (hdb : (x == ("__debug__" : Str)) = false := by decide) :
    DS g k Λ X W (.Raise (some (.Call (.Name x p1) [.Constant (.str m) j p2] [] p3)) none pos) (cRaise x) := fun ok tk => by
  have h1 : PySem.W.excIn X.K (g.cls x) [.type "ValueError", .type "Exception", .type "BaseException", .type "object"] "ValueError.__new__" = true := by rw [ok.K]; exact ec.xP
  have h2 : X.mg x = some (.ref (g.cls x)) := by rw [ok.mg]; exact ec.gP
  have h3 : PySem.W.keepIn X.K (.ref (g.cls x)) = true := by rw [ok.K]; exact ec.kP
  have h4 : PySem.W.subIn X.K (.ref (g.cls x)) (.type "BaseException") = some true := by rw [ok.K]; exact ec.bP
  have h5 : PySem.W.typeIn X.K (.ref (g.cls x)) = some (.type "type") := by rw [ok.K]; exact ec.tP
  refine PS.imp (ps_raise (W := W) ok.calm tk (pmk_own PySem.F.excBase_ValueError h1 h2 h3 (raises_own h4 h5) hg hdb)) fun E σ H ⟨ι, ρ, μ, r, l, m, e, p⟩ => ?_
  cases e
  exact p ι H σ (.refl _ _) m l
/-! loops -/
theorem ds_while (n : Nat) (hc : DT g k Λ X W c ta) (hb : DSs g k Λ X W sts f) : DS g k Λ X W (.While c sts [] pos) (cWhile n ta f) := fun ok tk => PS.imp (ps_while ok.po (hc ok tk) (hb ok tk)) fun E σ H ⟨ι, ρ, μ, r, l, m, e, p⟩ => by
  refine ⟨fun i σ' H' => ∃ ι' ρ' μ', LR g Λ ι' H' σ' ρ' ∧ MR g Λ ι' H' μ' ∧ wl ta f i ρ' μ' = some r ∧ Ext ι H ι' H', ⟨n, ι, ρ, μ, l, m, e, .refl _ _⟩, ?_⟩
  intro i σ1 H1 ⟨ι1, ρ1, μ1, l1, m1, e1, x1⟩
  cases i with
  | zero => cases e1
  | succ i =>
    refine goS_T l1 m1 e1 (p.ext x1) fun b μ2 ι2 H2 e2 e3 x2 m2 l2 => ?_
    have p2 := (p.ext x1).ext x2
    cases b with
    | false => cases e3; exact p2 ι2 H2 σ1 (.refl _ _) m2 l2
    | true =>
      rw [if_pos rfl]
      refine ⟨fun σ' H' => ∃ ι' ρ' μ', LR g Λ ι' H' σ' ρ' ∧ MR g Λ ι' H' μ' ∧ wl ta f i ρ' μ' = some r ∧ Ext ι H ι' H', fun σ' H' h => ⟨i, Nat.lt_succ_self i, h⟩, ?_⟩
      rw [if_pos rfl] at e3
      cases q : f ρ1 μ2 with
      | none => rw [q] at e3; cases e3
      | some o =>
        refine ⟨ι2, ρ1, μ2, o, l2, m2, q, ?_⟩
        rw [q] at e3
        cases o with
        | nx ρ3 μ3 => exact fun ι3 H3 σ3 x3 m3 l3 => ⟨ι3, ρ3, μ3, l3, m3, e3, (x1.trans x2).trans x3⟩
        | ct ρ3 μ3 => exact fun ι3 H3 σ3 x3 m3 l3 => ⟨ι3, ρ3, μ3, l3, m3, e3, (x1.trans x2).trans x3⟩
        | bk ρ3 μ3 => cases e3; exact fun ι3 H3 σ3 x3 m3 l3 => p2 ι3 H3 σ3 x3 m3 l3
        | rt d μ3 => cases e3; exact p2
        | ex c ρ3 μ3 => cases e3; exact p2
/-! what is walked -/
def Itk (g : Gb) (Λ : Lr) (ι : List Addr) (H : Hp) (J : It) (ds : List D) : Prop :=
  ∀ Λ' : Lr, (∀ d v, Rep g.K Λ ι H d v → Rep g.K Λ' ι H d v) → ∀ ι2 H2 μ2, Ext ι H ι2 H2 → MR g Λ' ι2 H2 μ2 → ∀ i : Nat, (ds.length ≤ i → J.stop i H2) ∧ ∀ d, ds[i]? = some d → J.go i H2 ∧ ∀ x H3, J.yld i H2 x H3 → Sam H2 H3 ∧ Rep g.K Λ' ι2 H3 d x
def rdI (g : Gb) (Λ : Lr) (W : WX) (f : Cb (List D)) : TI := fun σ H R => ∃ ι ρ μ r, LR g Λ ι H σ ρ ∧ MR g Λ ι H μ ∧ f ρ μ = some r ∧
  match r with
  | .ok ds μ' => ∀ ι' H' J, Ext ι H ι' H' → MR g Λ ι' H' μ' → Itk g Λ ι' H' J ds → R J H'
  | .exc c μ' => ∀ ι' H', Ext ι H ι' H' → MR g Λ ι' H' μ' → W (.ref (g.cls c)) none σ H'
def DI (g : Gb) (k : Nat) (Λ : Lr) (X : Cx) (W : WX) (tg iter : Expr) (f : Cb (List D)) : Prop := XOk g k X → Takes X W → PI X tg iter (rdI g Λ W f)
theorem PI.imp {X : Cx} {tg e : Expr} {t u : TI} (h : PI X tg e t) (i : ∀ σ H Q, u σ H Q → t σ H Q) : PI X tg e u := ⟨fun pins s σ H Q I q => h.run pins s σ H Q I (i σ H Q q)⟩
theorem goI_E {β : Type} {ι : List Addr} {H : Hp} {σ : St} {ρ : En} {μ : Sto} {f : Cb D} {kk : D → Sto → Option (Out (List D))} {r : Out (List D)} {R : VK} (l : LR g Λ ι H σ ρ) (m : MR g Λ ι H μ) (h : ob (f ρ μ) kk = some r)
    (px : match r with
      | .exc c μ' => ∀ ι' H', Ext ι H ι' H' → MR g Λ ι' H' μ' → W (.ref (g.cls c)) none σ H'
      | _ => True)
    (go : ∀ d μ1 ι1 H1 v, f ρ μ = some (.ok d μ1) → kk d μ1 = some r → Ext ι H ι1 H1 → MR g Λ ι1 H1 μ1 → LR g Λ ι1 H1 σ ρ → Rep g.K Λ ι1 H1 d v → R v H1) : rdE g Λ W f σ H R :=
  go_E (X1 := True) l m h (fun c μ1 e => by subst e; exact px) go
/-- a list, a tuple -/
def bItems (f : Cb D) : Cb (List D) := fun ρ μ => ob (f ρ μ) fun d μ1 => match d with
  | .lst xs => some (.ok xs μ1)
  | .tup xs => some (.ok xs μ1)
  | _ => none
theorem pi_sq {l : Expr} {tl : TE} (hl : PE X l tl) : PI X tg l (fun σ H R => tl σ H fun x H1 => (∃ a, x = .ref a ∧ (∃ xs, SqL X.K H1 a xs) ∧ R (Itl X.K a) H1) ∨ (∃ a, x = .ref a ∧ (∃ xs, SqT X.K H1 a xs) ∧ R (Itt X.K a) H1)) := by
  refine ⟨fun pins s σ H R I h => ?_⟩
  refine thn (hl.run pins s σ H _ I h) fun v s1 ⟨x, H1, I1, r1, q1⟩ => ?_
  rcases q1 with ⟨a, e, ⟨xs, hq⟩, q⟩ | ⟨a, e, ⟨xs, hq⟩, q⟩
  · subst e
    cases r1
    obtain ⟨its, rv, p, hz⟩ := I1.list hq
    refine wpAny_pyIter_list p.isList ⟨s1.heap.objs.size, [s1.heap.objs.size], _, _, H1, rfl, I1.kept (t' := s1.toks) fun b o e => Heap.get?_push_of_some _ e, turn_list a _, ⟨_, Heap.get?_push_size _ rfl, rfl, rfl⟩, fun b hb => ?_, q⟩
    rw [show b = s1.heap.objs.size by simpa using hb]
    exact I1.fpOk (Nat.le_refl _) (I1.hok.fresh (Nat.le_refl _))
  · subst e
    cases r1
    obtain ⟨its, rv, p, hz⟩ := I1.tuple hq
    refine wpAny_pyIter_tuple (show s1.heap.IsTuple a its.toArray from p) ⟨s1.heap.objs.size, [s1.heap.objs.size], _, _, H1, rfl, I1.kept (t' := s1.toks) fun b o e => Heap.get?_push_of_some _ e, turn_tuple a _, ⟨_, Heap.get?_push_size _ rfl, rfl, rfl⟩, fun b hb => ?_, q⟩
    rw [show b = s1.heap.objs.size by simpa using hb]
    exact I1.fpOk (Nat.le_refl _) (I1.hok.fresh (Nat.le_refl _))
theorem di_sq (ha : DE g k Λ X W a fa) : DI g k Λ X W tg a (bItems fa) := fun ok tk => PI.imp (pi_sq (ha ok tk)) fun σ H R ⟨ι, ρ, μ, r, l, m, e, p⟩ =>
  goI_E (β := D) l m e (by cases r with | ok _ _ => trivial | exc _ _ => exact p) fun d μ1 ι1 H1 v e1 e2 x1 m1 l1 r1 => by
    split at e2
    · rename_i xs
      cases e2
      obtain ⟨ad, us, rfl, h2, h3⟩ := r1
      refine .inl ⟨ad, rfl, ⟨us, by rw [ok.K]; exact .inl h2.1⟩, p ι1 H1 _ x1 m1 fun Λ' hΛ ι2 H2 μ2 x2 m2 i => ?_⟩
      have h4 : Rep g.K Λ' ι2 H2 (.lst xs) (.ref ad) := Rep.ext x2 (.lst xs) (hΛ _ _ ⟨ad, us, rfl, h2, h3⟩)
      obtain ⟨ad2, ws, z, h5, h6⟩ := h4
      cases z
      refine ⟨fun hi => ⟨ws, .inl h5.1, by rw [← h6.len]; exact hi⟩, fun d hd => ?_⟩
      obtain ⟨y, hy, ry⟩ := h6.get hd
      exact ⟨⟨ws, y, .inl h5.1, hy⟩, fun x H3 ⟨e3, hx⟩ => by
        rw [e3]
        have := hx ws (.inl h5.1)
        rw [hy] at this
        cases this
        exact ⟨fun _ _ h => h, ry⟩⟩
    · rename_i xs
      cases e2
      obtain ⟨ad, us, rfl, h2, h3⟩ := r1
      refine .inr ⟨ad, rfl, ⟨us, by rw [ok.K]; exact h2.sq⟩, p ι1 H1 _ x1 m1 fun Λ' hΛ ι2 H2 μ2 x2 m2 i => ?_⟩
      have h4 : Rep g.K Λ' ι2 H2 (.tup xs) (.ref ad) := Rep.ext x2 (.tup xs) (hΛ _ _ ⟨ad, us, rfl, h2, h3⟩)
      obtain ⟨ad2, ws, z, h5, h6⟩ := h4
      cases z
      refine ⟨fun hi => ⟨ws, by rw [ok.K]; exact h5.sq, by rw [← h6.len]; exact hi⟩, fun d hd => ?_⟩
      obtain ⟨y, hy, ry⟩ := h6.get hd
      exact ⟨⟨ws, y, by rw [ok.K]; exact h5.sq, hy⟩, fun x H3 ⟨e3, hx⟩ => by
        rw [e3]
        have := hx ws (by rw [ok.K]; exact h5.sq)
        rw [hy] at this
        cases this
        exact ⟨fun _ _ h => h, ry⟩⟩
    · cases e2
/-- range -/
def rngD (lo : Int) (n : Nat) : List D := (List.range n).map fun i => .int (lo + (i : Nat))
def bRng1 (f : Cb (List D)) : Cb (List D) := fun ρ μ => ob (f ρ μ) fun ds μ1 => match ds with
  | [.int j] => if -4611686018427387904 ≤ j ∧ j < 4611686018427387904 then some (.ok (rngD 0 j.toNat) μ1) else none
  | _ => none
def bRng2 (f : Cb (List D)) : Cb (List D) := fun ρ μ => ob (f ρ μ) fun ds μ1 => match ds with
  | [.int i, .int j] => if (-4611686018427387904 ≤ i ∧ i < 4611686018427387904) ∧ -4611686018427387904 ≤ j ∧ j < 4611686018427387904 then some (.ok (rngD i (j - i).toNat) μ1) else none
  | _ => none
theorem itk_rng {ι : List Addr} {H : Hp} (lo : Int) (n : Nat) : Itk g Λ ι H (Itr lo n) (rngD lo n) := fun Λ' _ ι2 H2 μ2 _ _ i => by
  have hl : (rngD lo n).length = n := by unfold rngD; simp
  refine ⟨fun h => by rw [hl] at h; exact h, fun d hd => ?_⟩
  have hi : i < n := by
    have := (List.getElem?_eq_some_iff.mp hd).1
    rw [hl] at this; exact this
  refine ⟨hi, fun x H3 ⟨e1, e2⟩ => ?_⟩
  rw [e1, e2]
  unfold rngD at hd
  rw [List.getElem?_map, List.getElem?_range hi] at hd
  cases hd
  exact ⟨fun _ _ h => h, rfl⟩
theorem goI_A {ι : List Addr} {H : Hp} {σ : St} {ρ : En} {μ : Sto} {f : Cb (List D)} {kk : List D → Sto → Option (Out (List D))} {r : Out (List D)} {R : List V → Hp → Prop} (l : LR g Λ ι H σ ρ) (m : MR g Λ ι H μ) (h : ob (f ρ μ) kk = some r)
    (px : match r with
      | .exc c μ' => ∀ ι' H', Ext ι H ι' H' → MR g Λ ι' H' μ' → W (.ref (g.cls c)) none σ H'
      | _ => True)
    (go : ∀ d μ1 ι1 H1 v, f ρ μ = some (.ok d μ1) → kk d μ1 = some r → Ext ι H ι1 H1 → MR g Λ ι1 H1 μ1 → LR g Λ ι1 H1 σ ρ → Reps g.K Λ ι1 H1 d v → R v H1) : rdA g Λ W f σ H R :=
  go_A l m h (fun c μ1 e => by subst e; exact px) go
theorem di_rng1 {p : Pos} (hm : g.mg "range" = none) (ha : DA g k Λ X W [a] fs) (hg : Gl X "range" := by rfl) (hs : starEach [a] X.env = [(false, eval a X.env)] := by rfl) : DI g k Λ X W tg (.Call (.Name "range" p) [a] [] pos) (bRng1 fs) := fun ok tk =>
  PI.imp (pi_range1 hg (by rw [ok.mg]; exact hm) (ha ok tk) hs) fun σ H R ⟨ι, ρ, μ, r, l, m, e, p⟩ => goI_A l m e (by cases r with | ok _ _ => trivial | exc _ _ => exact p) fun ds μ1 ι1 H1 us e1 e2 x1 m1 l1 r1 => by
    split at e2
    · split at e2
      · rename_i hj
        cases e2
        obtain ⟨v, rfl, rv⟩ := r1.inv1
        cases rv
        exact ⟨_, rfl, by omega, by omega, p ι1 H1 _ x1 m1 (itk_rng _ _)⟩
      · cases e2
    · cases e2
theorem di_rng2 {p : Pos} (hm : g.mg "range" = none) (ha : DA g k Λ X W [a, b] fs) (hg : Gl X "range" := by rfl) (hs : starEach [a, b] X.env = [(false, eval a X.env), (false, eval b X.env)] := by rfl) (hs2 : starEach [b] X.env = [(false, eval b X.env)] := by rfl) : DI g k Λ X W tg (.Call (.Name "range" p) [a, b] [] pos) (bRng2 fs) := fun ok tk =>
  PI.imp (pi_range2 hg (by rw [ok.mg]; exact hm) (ha ok tk) hs hs2) fun σ H R ⟨ι, ρ, μ, r, l, m, e, p⟩ => goI_A l m e (by cases r with | ok _ _ => trivial | exc _ _ => exact p) fun ds μ1 ι1 H1 us e1 e2 x1 m1 l1 r1 => by
    split at e2
    · split at e2
      · rename_i hj
        cases e2
        obtain ⟨v, u, rfl, rv, ru⟩ := r1.inv2
        cases rv; cases ru
        exact ⟨_, _, rfl, ⟨by omega, by omega, by omega, by omega⟩, p ι1 H1 _ x1 m1 (itk_rng _ _)⟩
      · cases e2
    · cases e2
theorem ds_for {fit : Cb (List D)} (hi : DI g k Λ X W tg c fit) (ht : DG g k Λ X W vs tg t) (hb : DSs g k Λ X W sts f) (hs : ∀ x, foldedSetIterable c X.env x = pure x := by intro _; rfl) : DS g k Λ X W (.For tg c sts [] pos) (cFor fit t f) := fun ok tk =>
  PS.imp (ps_for ok.po ok.calm (hi ok tk) (ht ok tk) (hb ok tk) hs) fun E σ H ⟨ι, ρ, μ, r, l, m, e, p⟩ => by
    have e : obS (fit ρ μ) ρ (fun ds μ1 => fl t f ds ρ μ1) = some r := e
    cases q : fit ρ μ with
    | none => rw [q] at e; cases e
    | some o =>
      refine ⟨ι, ρ, μ, o, l, m, q, ?_⟩
      rw [q] at e
      cases o with
      | exc c μ1 => cases e; exact fun ι' H' x m' => p ι' H' σ x m' (l.ext x)
      | ok ds μ1 =>
        intro ι1 H1 J x1 m1 it
        have e : fl t f ds ρ μ1 = some r := e
        refine ⟨fun i n σ2 H2 => ∃ ι2 ρ2 μ2, i ≤ ds.length ∧ n = ds.length - i ∧ LR g Λ ι2 H2 σ2 ρ2 ∧ MR g Λ ι2 H2 μ2 ∧ fl t f (ds.drop i) ρ2 μ2 = some r ∧ Ext ι1 H1 ι2 H2, ⟨_, ι1, ρ, μ1, Nat.zero_le _, rfl, l.ext x1, m1, e, .refl _ _⟩, ?_⟩
        intro i n σ2 H2 ⟨ι2, ρ2, μ2, hi, hn, l2, m2, e2, x2⟩
        obtain ⟨stop, go⟩ := it Λ (fun _ _ h => h) ι2 H2 μ2 x2 m2 i
        have p2 := (p.ext x1).ext x2
        by_cases hl : ds.length ≤ i
        · rw [List.drop_of_length_le hl] at e2
          cases e2
          exact .inl ⟨stop hl, p2 ι2 H2 σ2 (.refl _ _) m2 l2⟩
        · have hlt : i < ds.length := by omega
          obtain ⟨g1, g2⟩ := go ds[i] (List.getElem?_eq_getElem hlt)
          rw [List.drop_eq_getElem_cons hlt] at e2
          refine .inr ⟨g1, fun σ3 H3 => ∃ ι3 ρ3 μ3, LR g Λ ι3 H3 σ3 ρ3 ∧ MR g Λ ι3 H3 μ3 ∧ fl t f (ds.drop (i + 1)) ρ3 μ3 = some r ∧ Ext ι1 H1 ι3 H3, fun σ3 H3 ⟨ι3, ρ3, μ3, l3, m3, e3, x3⟩ => ⟨ds.length - (i + 1), by omega, ι3, ρ3, μ3, by omega, rfl, l3, m3, e3, x3⟩, fun x H3 hy => ?_⟩
          obtain ⟨sm, rx⟩ := g2 x H3 hy
          have x3 : Ext ι2 H2 ι2 H3 := .of_sam sm
          have e2 : (match t ds[i] ρ2 μ2 with
            | some (ρ1, μ1) => (match f ρ1 μ1 with
              | some (.nx ρ2 μ2) => fl t f (ds.drop (i + 1)) ρ2 μ2
              | some (.ct ρ2 μ2) => fl t f (ds.drop (i + 1)) ρ2 μ2
              | some (.bk ρ2 μ2) => some (.nx ρ2 μ2)
              | r => r)
            | none => none) = some r := e2
          split at e2
          · rename_i ρ4 μ4 q4
            refine ⟨ι2, ρ2, μ2, ds[i], ρ4, μ4, l2.ext x3, m2.sam sm, rx, q4, fun ι5 H5 σ5 x5 m5 l5 _ => ?_⟩
            cases q5 : f ρ4 μ4 with
            | none => rw [q5] at e2; cases e2
            | some o =>
              refine ⟨ι5, ρ4, μ4, o, l5, m5, q5, ?_⟩
              rw [q5] at e2
              have x25 := x3.trans x5
              cases o with
              | nx ρ6 μ6 => exact fun ι6 H6 σ6 x6 m6 l6 => ⟨ι6, ρ6, μ6, l6, m6, e2, (x2.trans x25).trans x6⟩
              | ct ρ6 μ6 => exact fun ι6 H6 σ6 x6 m6 l6 => ⟨ι6, ρ6, μ6, l6, m6, e2, (x2.trans x25).trans x6⟩
              | bk ρ6 μ6 => cases e2; exact fun ι6 H6 σ6 x6 m6 l6 => p2 ι6 H6 σ6 (x25.trans x6) m6 l6
              | rt d μ6 => cases e2; exact p2.ext x25
              | ex c ρ6 μ6 => cases e2; exact p2.ext x25
          · cases e2
end
end Mi

set_option Elab.async false
set_option linter.all false
set_option maxRecDepth 100000
set_option maxHeartbeats 4000000
namespace Mi
open PySem L2

/-! ### comprehensions -/
def wipeD (ρ : En) : List Nat → En
  | [] => ρ
  | v :: vs => (wipeD ρ vs).set v none
def cl (t : Tg) (fc : Cb Bool) (fe : Cb D) : List D → List D → En → Sto → Option (Out (List D))
  | [], acc, _, μ => some (.ok acc μ)
  | d :: ds, acc, ρ, μ => match t d ρ μ with
    | some (ρ1, μ1) => (match fc ρ1 μ1 with
      | some (.ok true μ2) => (match fe ρ1 μ2 with
        | some (.ok y μ3) => if acc.length < 16777216 then cl t fc fe ds (acc ++ [y]) ρ μ3 else none
        | _ => none)
      | some (.ok false μ2) => cl t fc fe ds acc ρ μ2
      | _ => none)
    | none => none
def bYes : Cb Bool := fun _ μ => some (.ok true μ)
def bComp (own : List Nat) (fit : Cb (List D)) (t : Tg) (fc : Cb Bool) (fe : Cb D) : Cb D := fun ρ μ => ob (fit ρ μ) fun ds μ1 => ob (cl t fc fe ds [] (wipeD ρ own) μ1) fun acc μ2 => some (.ok (.lst acc) μ2)
def W0 : WX := fun _ _ _ _ => False
theorem takesN {X : Cx} : Takes X W0 := fun _ _ x => by
  obtain ⟨_, _, _, _, _, _, _, _, _, _, _, _, _, _, _, _, z⟩ := x
  exact z.elim
section
variable {g : Gb} {k j : Nat} {Λ : Lr} {X : Cx} {W : WX} {vs : List Nat} {a b c tg elt iter : Expr} {fa fb fc fe : Cb D} {pos pos' : Pos} {st : Stmt} {sts sts' : List Stmt} {f f1 f2 : Cs} {es ifs : List Expr} {fs fit : Cb (List D)} {ta tc : Cb Bool} {t : Tg} {scope : Scope}
theorem wipe_len (ρ : En) : ∀ vs : List Nat, (wipeD ρ vs).length = ρ.length
  | [] => rfl
  | v :: vs => by unfold wipeD; rw [List.length_set, wipe_len ρ vs]
theorem LR.wipe {ι : List Addr} {H : Hp} {σ : St} {ρ : En} (l : LR g Λ ι H σ ρ) : ∀ vs : List Nat, LR g Λ ι H (L2.wipe σ vs) (wipeD ρ vs)
  | [] => l
  | v :: vs => by
    have ih := l.wipe vs
    refine ⟨by rw [wipe_len, L2.wipe_length]; exact l.len, fun i d q => ?_⟩
    unfold wipeD at q
    by_cases e : v = i
    · subst e
      have hl : v < (wipeD ρ vs).length := by simpa using (List.getElem?_eq_some_iff.mp q).1
      rw [List.getElem?_set_self hl] at q
      cases q
    · rw [List.getElem?_set_ne e] at q
      obtain ⟨w, h1, h2⟩ := ih.at_ i d q
      exact ⟨w, by unfold L2.wipe; rw [List.getElem?_set_ne e]; exact h1, h2⟩
theorem XOk.blk {s : Shared} {H : Hp} {cenv : Env} {fp : List Addr} (ok : XOk g k X) : XOk g k (X.blk s H scope cenv fp) := ⟨ok.P, ok.w, ok.K, ok.mg, ok.base, ok.calm, ok.room, ok.nd, PassesOwn.never⟩
/-- in any frame with more to be left alone -/
theorem pe_any {e : Expr} {P : Lr → Prop} {tt : Lr → TE} (h : ∀ Λ', P Λ' → PE X e (tt Λ')) : PE X e (fun σ H Q => ∃ Λ', P Λ' ∧ tt Λ' σ H Q) := ⟨fun pins s σ H Q I ⟨Λ', hp, q⟩ => (h Λ' hp).run pins s σ H Q I q⟩
theorem pts_any {e : List Expr} {P : Lr → Prop} {tt : Lr → TT} (h : ∀ Λ', P Λ' → PTs X e (tt Λ')) : PTs X e (fun σ H Q => ∃ Λ', P Λ' ∧ tt Λ' σ H Q) := ⟨fun pins s σ H Q I ⟨Λ', hp, q⟩ => (h Λ' hp).run pins s σ H Q I q⟩
theorem pg_any {e : Expr} {P : Lr → Prop} {tt : Lr → TG} (h : ∀ Λ', P Λ' → PG X e (tt Λ')) : PG X e (fun v σ H Q => ∃ Λ', P Λ' ∧ tt Λ' v σ H Q) := ⟨fun pins s σ H v u Q I r ⟨Λ', hp, q⟩ => (h Λ' hp).run pins s σ H v u Q I r q⟩
def DTs (g : Gb) (k : Nat) (Λ : Lr) (X : Cx) (W : WX) (es : List Expr) (f : Cb Bool) : Prop := XOk g k X → Takes X W → PTs X es (rdT g Λ W f)
theorem PTs.imp {X : Cx} {e : List Expr} {t u : TT} (h : PTs X e t) (i : ∀ σ H Q, u σ H Q → t σ H Q) : PTs X e u := ⟨fun pins s σ H Q I q => h.run pins s σ H Q I (i σ H Q q)⟩
theorem dts_nil : DTs g k Λ X W [] bYes := fun _ _ => PTs.imp pts_nil fun σ H Q ⟨ι, ρ, μ, r, l, m, e, p⟩ => by cases e; exact p ι H (.refl _ _) m
theorem dts_one (h : DT g k Λ X W a ta) : DTs g k Λ X W [a] ta := fun ok tk => pts_one (h ok tk)
theorem wipe_none (σ : St) (v : Nat) : ∀ ws : List Nat, v ∈ ws → (L2.wipe σ ws).set v none = L2.wipe σ ws
  | [], h => by cases h
  | w :: ws, h => by
    unfold L2.wipe
    by_cases e : v = w
    · subst e
      rw [List.set_set]
    · rw [List.set_comm _ _ (fun z => e z.symm), wipe_none σ v ws ((List.mem_cons.mp h).resolve_left e)]
/-- what a comprehension's reading is -/
def tC (g : Gb) (Λ : Lr) (W : WX) (own : List Nat) (fit : Cb (List D)) (t : Tg) (tc : Cb Bool) (fe : Cb D) : TE :=
  tLc (rdI g Λ W fit) (fun v σ H Q => ∃ Λ' : Lr, Λ'.lam = Λ.lam ∧ rdG g Λ' own t v σ H Q) (fun σ H Q => ∃ Λ' : Lr, Λ'.lam = Λ.lam ∧ rdT g Λ' W0 tc σ H Q) (fun σ H Q => ∃ Λ' : Lr, Λ'.lam = Λ.lam ∧ rdE g Λ' W0 fe σ H Q) own
theorem rd_comp {own : List Nat} {σ : St} {H : Hp} {Q : VK} (h : rdE g Λ W (bComp own fit t tc fe) σ H Q) : tC g Λ W own fit t tc fe σ H Q := by
  obtain ⟨ι, ρ, μ, r, l, m, e, p⟩ := h
  have e : ob (fit ρ μ) (fun ds μ1 => ob (cl t tc fe ds [] (wipeD ρ own) μ1) fun acc μ2 => some (.ok (.lst acc) μ2)) = some r := e
  cases q : fit ρ μ with
  | none => rw [q] at e; cases e
  | some o =>
    refine ⟨ι, ρ, μ, o, l, m, q, ?_⟩
    rw [q] at e
    cases o with
    | exc c μ1 => cases e; exact p
    | ok ds μ1 =>
      intro ι1 H1 J x1 m1 it D hD
      have e : ob (cl t tc fe ds [] (wipeD ρ own) μ1) (fun acc μ2 => some (.ok (.lst acc) μ2)) = some r := e
      have lw : LR g (Λ.add D) ι1 (upd H1 D (.lst [])) (wipe σ own) (wipeD ρ own) := LR.add ((l.ext x1).wipe own) hD
      have mD : MR g (Λ.add D) ι1 (upd H1 D (.lst [])) μ1 := m1.add hD (by intro ps z; cases z)
      have fr := m1.fresh hD
      have avD : D ∈ (Λ.add D).av := List.mem_cons_self
      refine ⟨fun i n H2 => ∃ ι2 μ2 acc accV, i ≤ ds.length ∧ n = ds.length - i ∧ Ext ι1 H1 ι2 H2 ∧ MR g (Λ.add D) ι2 H2 μ2 ∧ LR g (Λ.add D) ι2 H2 (wipe σ own) (wipeD ρ own) ∧ H2 D = some (.lst accV) ∧ D ∉ ι2 ∧ Reps g.K (Λ.add D) ι2 H2 acc accV ∧
          ob (cl t tc fe (ds.drop i) acc (wipeD ρ own) μ2) (fun acc μ2 => some (.ok (.lst acc) μ2)) = some r,
        ⟨_, ι1, μ1, [], [], Nat.zero_le _, rfl, .of_sam (sam_upd hD), mD, lw, upd_same, fr.1, rfl, e⟩, ?_⟩
      intro i n H2 ⟨ι2, μ2, acc, accV, hi, hn, x2, m2, l2, hd, nD, ra, e2⟩
      obtain ⟨stop, go⟩ := it (Λ.add D) (fun d v rv => Rep.add hD d rv) ι2 H2 μ2 x2 m2 i
      by_cases hl : ds.length ≤ i
      · rw [List.drop_of_length_le hl] at e2
        cases e2
        exact .inl ⟨stop hl, p ι2 H2 (.ref D) (x1.trans x2) m2.sub ⟨D, accV, rfl, ⟨.inl hd, nD, fr.2⟩, Reps.sub acc ra⟩⟩
      · have hlt : i < ds.length := by omega
        obtain ⟨g1, g2⟩ := go ds[i] (List.getElem?_eq_getElem hlt)
        rw [List.drop_eq_getElem_cons hlt] at e2
        refine .inr ⟨g1, fun H3 => ∃ ι2 μ2 acc accV, Ext ι1 H1 ι2 H3 ∧ MR g (Λ.add D) ι2 H3 μ2 ∧ LR g (Λ.add D) ι2 H3 (wipe σ own) (wipeD ρ own) ∧ H3 D = some (.lst accV) ∧ D ∉ ι2 ∧ Reps g.K (Λ.add D) ι2 H3 acc accV ∧
          ob (cl t tc fe (ds.drop (i + 1)) acc (wipeD ρ own) μ2) (fun acc μ2 => some (.ok (.lst acc) μ2)) = some r, fun H3 ⟨ι3, μ3, acc3, accV3, y1, y2, y3, y4, y5, y6, y7⟩ => ⟨ds.length - (i + 1), by omega, ι3, μ3, acc3, accV3, by omega, rfl, y1, y2, y3, y4, y5, y6, y7⟩, fun x H3 hy => ?_⟩
        obtain ⟨sm, rx⟩ := g2 x H3 hy
        have x3 : Ext ι2 H2 ι2 H3 := .of_sam sm
        have e3 : ob (match t ds[i] (wipeD ρ own) μ2 with
          | some (ρ1, μ1) => (match tc ρ1 μ1 with
            | some (.ok true μ2) => (match fe ρ1 μ2 with
              | some (.ok y μ3) => if acc.length < 16777216 then cl t tc fe (ds.drop (i + 1)) (acc ++ [y]) (wipeD ρ own) μ3 else none
              | _ => none)
            | some (.ok false μ2) => cl t tc fe (ds.drop (i + 1)) acc (wipeD ρ own) μ2
            | _ => none)
          | none => none) (fun acc μ2 => some (.ok (.lst acc) μ2)) = some r := e2
        cases q4 : t ds[i] (wipeD ρ own) μ2 with
        | none => rw [q4] at e3; cases e3
        | some o4 =>
          obtain ⟨ρ4, μ4⟩ := o4
          rw [q4] at e3
          dsimp only at e3
          refine ⟨Λ.add D, rfl, ι2, wipeD ρ own, μ2, ds[i], ρ4, μ4, l2.ext x3, m2.sam sm, rx, q4, fun ι5 H5 σ5 x5 m5 l5 w5 => ⟨?_, ?_⟩⟩
          · have := w5
            have idem : ∀ (vs ws : List Nat), (∀ v ∈ vs, v ∈ ws) → wipe (wipe σ ws) vs = wipe σ ws := by
              intro vs ws
              induction vs with
              | nil => intro _; rfl
              | cons v vs ih =>
                intro hm
                have e1 := ih fun u hu => hm u (List.mem_cons_of_mem _ hu)
                show (wipe (wipe σ ws) vs).set v none = wipe σ ws
                rw [e1]
                exact wipe_none σ v ws (hm v List.mem_cons_self)
            rw [w5]
            exact idem own own fun _ h => h
          · cases q5 : tc ρ4 μ4 with
            | none => rw [q5] at e3; cases e3
            | some o5 =>
              refine ⟨Λ.add D, rfl, ι5, ρ4, μ4, o5, l5, m5, q5, ?_⟩
              rw [q5] at e3
              try dsimp only at e3
              cases o5 with
              | exc c μ5 => cases e3
              | ok bb μ5 =>
                intro ι6 H6 x6 m6
                have x26 : Ext ι2 H2 ι6 H6 := (x3.trans x5).trans x6
                have d6 : H6 D = some (.lst accV) := x26.keep D _ hd (by intro ps z; cases z) nD
                have n6 : D ∉ ι6 := x26.notin hd (by intro ps z; cases z) nD
                cases bb with
                | false =>
                  show (if false = true then _ else _)
                  rw [if_neg (by decide)]
                  exact ⟨ι6, μ5, acc, accV, x2.trans x26, m6, l2.ext x26, d6, n6, Reps.ext x26 acc ra, e3⟩
                | true =>
                  show (if true = true then _ else _)
                  rw [if_pos rfl]
                  cases q6 : fe ρ4 μ5 with
                  | none =>
                    have e3 : ob (match fe ρ4 μ5 with
                      | some (.ok y μ3) => if acc.length < 16777216 then cl t tc fe (ds.drop (i + 1)) (acc ++ [y]) (wipeD ρ own) μ3 else none
                      | _ => none) (fun acc μ2 => some (.ok (.lst acc) μ2)) = some r := e3
                    rw [q6] at e3
                    cases e3
                  | some o6 =>
                    have e3 : ob (match fe ρ4 μ5 with
                      | some (.ok y μ3) => if acc.length < 16777216 then cl t tc fe (ds.drop (i + 1)) (acc ++ [y]) (wipeD ρ own) μ3 else none
                      | _ => none) (fun acc μ2 => some (.ok (.lst acc) μ2)) = some r := e3
                    refine ⟨Λ.add D, rfl, ι6, ρ4, μ5, o6, l5.ext x6, m6, q6, ?_⟩
                    rw [q6] at e3
                    cases o6 with
                    | exc c μ7 => cases e3
                    | ok y μ7 =>
                      intro ι7 H7 v x7 m7 rv
                      have x27 := x26.trans x7
                      have d7 : H7 D = some (.lst accV) := x7.keep D _ d6 (by intro ps z; cases z) n6
                      have n7 : D ∉ ι7 := x7.notin d6 (by intro ps z; cases z) n6
                      have r7 : Reps g.K (Λ.add D) ι7 H7 acc accV := Reps.ext x27 acc ra
                      have hz : acc.length < 16777216 := by
                        by_cases hz : acc.length < 16777216
                        · exact hz
                        · have e3 : ob (if acc.length < 16777216 then cl t tc fe (ds.drop (i + 1)) (acc ++ [y]) (wipeD ρ own) μ7 else none) (fun acc μ2 => some (.ok (.lst acc) μ2)) = some r := e3
                          rw [if_neg hz] at e3
                          cases e3
                      have e3 : ob (if acc.length < 16777216 then cl t tc fe (ds.drop (i + 1)) (acc ++ [y]) (wipeD ρ own) μ7 else none) (fun acc μ2 => some (.ok (.lst acc) μ2)) = some r := e3
                      rw [if_pos hz] at e3
                      have hq7 : ∀ c q, H7 D ≠ some (LamX.CodeO c q) := fun c q z => by
                        rw [d7] at z
                        unfold LamX.CodeO at z
                        cases z
                      refine ⟨accV, d7, by rw [← r7.len, sizeLine_eq]; omega, ι7, μ7, acc ++ [y], accV ++ [v], ?_, ?_, (l2.ext x27).out avD hq7, upd_same, n7, Reps.app (Reps.out avD hq7 acc r7) (Reps.one (Rep.out avD hq7 y rv)), e3⟩
                      · have x17 := x2.trans x27
                        refine ⟨x17.pre, fun b o hb nt ni => ?_, fun b n => x17.nt b ?_⟩
                        · rw [upd_ne (ne_of_none hb hD)]
                          exact x17.keep b o hb nt ni
                        · intro o eo
                          by_cases z : b = D
                          · rw [z] at n
                            exact (n.no upd_same (by intro ps z; cases z)).elim
                          · exact n o (by rw [upd_ne z]; exact eo)
                      · exact m7.out avD n7 d7 (by intro ps z; cases z) (by intro c q z; unfold LamX.CodeO at z; cases z) (by intro ps z; cases z)
end
end Mi

set_option Elab.async false
set_option linter.all false
set_option maxRecDepth 100000
set_option maxHeartbeats 4000000
namespace Mi
open PySem L2
section
variable {g : Gb} {k j : Nat} {Λ : Lr} {X : Cx} {W : WX} {vs : List Nat} {a b c tg elt iter : Expr} {fa fb fc fe : Cb D} {pos pos' spos py : Pos} {st : Stmt} {sts sts' : List Stmt} {f f1 f2 : Cs} {es ifs : List Expr} {fs fit : Cb (List D)} {ta tc : Cb Bool} {t : Tg} {scope : Scope}
/-- all that a comprehension's parts are to be shown for -/
abbrev Blk (Λ : Lr) (X : Cx) (scope : Scope) (P : Lr → Cx → Prop) : Prop := ∀ Λ' : Lr, Λ'.lam = Λ.lam → ∀ (s : Shared) (H : Hp) (C : Addr) (cl : List (Str × Addr)) (fp : List Addr), P Λ' (X.blk s H scope (compEnvC scope cl C X.env) fp)
theorem de_comp (own : List (Str × Nat)) (hi : DI g k Λ X W tg iter fit) (hb : blkC X.N X.env.scope scope own = true) (ht : Blk Λ X scope fun Λ' X' => DG g k Λ' X' W0 (own.map (·.2)) tg t) (hc : Blk Λ X scope fun Λ' X' => DTs g k Λ' X' W0 ifs tc) (he : Blk Λ X scope fun Λ' X' => DE g k Λ' X' W0 elt fe)
    (hs : ∀ x, foldedSetIterable iter X.env x = pure x := by intro _; rfl) : DE g k Λ X W (.ListComp elt [⟨tg, iter, ifs, 0⟩] scope pos) (bComp (own.map (·.2)) fit t tc fe) := fun ok tk =>
  PE.imp (pe_lc ok.calm ok.nd (hi ok tk) (blkOk_by hb) (fun s H C cl fp => pg_any fun Λ' hl => ht Λ' hl s H C cl fp ok.blk takesN) (fun s H C cl fp => pts_any fun Λ' hl => hc Λ' hl s H C cl fp ok.blk takesN) (fun s H C cl fp => pe_any fun Λ' hl => he Λ' hl s H C cl fp ok.blk takesN) hs) fun σ H Q h => rd_comp h
theorem ds_setLc (i : Nat) {y : Str} (own : List (Str × Nat)) (hi : DI g k Λ X W tg iter fit) (hb : blkC X.N X.env.scope scope own = true) (ht : Blk Λ X scope fun Λ' X' => DG g k Λ' X' W0 (own.map (·.2)) tg t) (hc : Blk Λ X scope fun Λ' X' => DTs g k Λ' X' W0 ifs tc) (he : Blk Λ X scope fun Λ' X' => DE g k Λ' X' W0 elt fe)
    (hy : X.N[i]? = some y := by rfl) (hyl : X.env.scope.names.lookup y = some .local := by rfl) (hsw : swapsWith (.ListComp elt [⟨tg, iter, ifs, 0⟩] scope pos) (some (.Name y py)) spos.line X.env = pure true) (hs : ∀ x, foldedSetIterable iter X.env x = pure x := by intro _; rfl) :
    DS g k Λ X W (.Assign [.Name y py] (.ListComp elt [⟨tg, iter, ifs, 0⟩] scope pos) spos) (cSet i (bComp (own.map (·.2)) fit t tc fe)) := fun ok tk =>
  PS.imp (ps_setLc ok.calm ok.nd hy hyl hsw (hi ok tk) (blkOk_by hb) (fun s H C cl fp => pg_any fun Λ' hl => ht Λ' hl s H C cl fp ok.blk takesN) (fun s H C cl fp => pts_any fun Λ' hl => hc Λ' hl s H C cl fp ok.blk takesN) (fun s H C cl fp => pe_any fun Λ' hl => he Λ' hl s H C cl fp ok.blk takesN) hs) fun E σ H ⟨ι, ρ, μ, r, l, m, e, p⟩ =>
    rd_comp (goS_E l m e p fun d μ1 ι1 H1 v e1 e2 x1 m1 l1 r1 => by cases e2; exact p ι1 H1 _ x1 m1 (l1.set r1 i))
/-- enumerate -/
def enD : Nat → List D → List D
  | _, [] => []
  | n, d :: ds => .tup [.int n, d] :: enD (n + 1) ds
theorem enD_get : ∀ (ds : List D) (n i : Nat), (enD n ds)[i]? = ds[i]?.map fun d => .tup [.int (n + i : Nat), d]
  | [], _, _ => by simp [enD]
  | d :: ds, n, 0 => by simp [enD]
  | d :: ds, n, i + 1 => by
    show (enD (n + 1) ds)[i]? = _
    rw [enD_get ds (n + 1) i, List.getElem?_cons_succ]
    have : n + 1 + i = n + (i + 1) := by omega
    rw [this]
theorem enD_len : ∀ (ds : List D) (n : Nat), (enD n ds).length = ds.length
  | [], _ => rfl
  | d :: ds, n => by show (enD (n + 1) ds).length + 1 = _; rw [enD_len ds (n + 1)]; rfl
def bEnum (f : Cb (List D)) : Cb (List D) := fun ρ μ => ob (f ρ μ) fun ds μ1 => match ds with
  | [.lst xs] => some (.ok (enD 0 xs) μ1)
  | _ => none
theorem di_enum {p tpos : Pos} {elts : List Expr} {kk : Nat} (hm : g.mg "enumerate" = none) (ha : DA g k Λ X W [a] fs) (hg : Gl X "enumerate" := by rfl) (hs : starEach [a] X.env = [(false, eval a X.env)] := by rfl) : DI g k Λ X W (.Tuple elts kk tpos) (.Call (.Name "enumerate" p) [a] [] pos) (bEnum fs) := fun ok tk =>
  PI.imp (pi_enum hg (by rw [ok.mg]; exact hm) (ha ok tk) hs) fun σ H R ⟨ι, ρ, μ, r, l, m, e, p⟩ => goI_A l m e (by cases r with | ok _ _ => trivial | exc _ _ => exact p) fun ds μ1 ι1 H1 us e1 e2 x1 m1 l1 r1 => by
    split at e2
    · rename_i xs
      cases e2
      obtain ⟨v, rfl, rv⟩ := r1.inv1
      obtain ⟨ad, ws, rfl, h2, h3⟩ := rv
      refine ⟨ad, ws, rfl, by rw [ok.K]; exact .inl h2.1, p ι1 H1 _ x1 m1 fun Λ' hΛ ι2 H2 μ2 x2 m2 i => ?_⟩
      have h4 : Rep g.K Λ' ι2 H2 (.lst xs) (.ref ad) := Rep.ext x2 (.lst xs) (hΛ _ _ ⟨ad, ws, rfl, h2, h3⟩)
      obtain ⟨ad2, zs, z, h5, h6⟩ := h4
      cases z
      have sq : SqL X.K H2 ad zs := .inl h5.1
      refine ⟨fun hi => ⟨zs, sq, by rw [← h6.len]; rw [enD_len] at hi; exact hi⟩, fun d hd => ?_⟩
      rw [enD_get] at hd
      cases q : xs[i]? with
      | none => rw [q] at hd; cases hd
      | some d' =>
        rw [q] at hd
        cases hd
        obtain ⟨y, hy, ry⟩ := h6.get q
        refine ⟨⟨zs, y, sq, hy⟩, fun x H3 hx => ?_⟩
        obtain ⟨q, y', rfl, hq, rfl, hx⟩ := hx
        have := hx zs sq
        rw [hy] at this
        cases this
        have hr : Reps g.K Λ' ι2 H2 [.int ((0 + i : Nat) : Int), d'] [.int i, y] := ⟨_, _, rfl, by rw [Nat.zero_add]; rfl, Reps.one ry⟩
        obtain ⟨y1, y2, y3⟩ := new_tup m2 hq hr
        exact ⟨sam_upd hq, y3⟩
    · cases e2
/-! ### defs -/
def fnS (N : Nat) (body : Cs) : FnS := fun ds μ => match body (ds.map some ++ List.replicate (N - ds.length) none) μ with
  | some (.nx _ μ') => some (.ok .non μ')
  | some (.rt d μ') => if lamf d = true then some (.ok d μ') else none
  | some (.ex c _ μ') => some (.exc c μ')
  | _ => none
structure FunC (K : PySem.W.Frag) (x qual : Str) (st : Stmt) (f c : Addr) (fd : FuncData) : Prop where
  ex : ∃ (oc : Value) (od : Option Addr) (kV doc pm : Value) (an : Option Addr) (ct : Value) (osl : Array (Option Value)),
    fd = PySem.W.fnOf x qual (defArgs st) (defBody st) (defScope st) .none kV doc pm an (.ref c) ct ∧ K.lookup f = some ⟨oc, od, .func fd, osl⟩ ∧ PySem.W.codeIn K (.ref c) qual = true
  kp : PySem.W.keepIn K (.ref f) = true
theorem FunC.binds {K : PySem.W.Frag} {x qual : Str} {f cc : Addr} {fd : FuncData} {ps : List Str} (F : FunC K x qual st f cc fd)
    (h : ∀ (kV doc pm : Value) (an : Option Addr) (cdv ct : Value) (us : List Value), us.length = ps.length → bindArgs (PySem.W.fnOf x qual (defArgs st) (defBody st) (defScope st) .none kV doc pm an cdv ct) ⟨us, []⟩ = pure (ps.zip us)) : Binds K fd ps [] := by
  obtain ⟨oc, od, kV, doc, pm, an, ct, osl, rfl, lk, hcd⟩ := F.ex
  exact .all (h kV doc pm an _ ct)
theorem LR.start {ι : List Addr} {H : Hp} {N : List Str} {ds : List D} {us : List V} (r : Reps g.K Λ ι H ds us) : LR g Λ ι H (start N us) (ds.map some ++ List.replicate (N.length - ds.length) none) := by
  unfold L2.start
  refine ⟨by simp [r.len], fun i d q => ?_⟩
  by_cases hi : i < ds.length
  · rw [List.getElem?_append_left (by simpa using hi), List.getElem?_map] at q
    obtain ⟨d', h1, h2⟩ := Option.map_eq_some_iff.mp q
    cases h2
    obtain ⟨v, h3, h4⟩ := r.get h1
    exact ⟨v, by rw [List.getElem?_append_left (by rw [List.length_map, ← r.len]; exact hi), List.getElem?_map, h3]; rfl, h4⟩
  · rw [List.getElem?_append_right (by simpa using hi)] at q
    obtain ⟨_, q⟩ := List.getElem?_eq_some_iff.mp q
    simp at q
/-- the context of a def's body -/
abbrev fX (g : Gb) (N : List Str) (x : Str) (st : Stmt) (f c : Addr) (A : Around) (outer : List Env) (s : Shared) (H : Hp) (E : XK) : Cx := cxOf (L2.CX g.P g.w) g.P g.w g.K g.mg g.base N x (defScope st) f (.ref c) A outer s H E
abbrev fW (E : XK) : WX := fun cls d _ H => E cls d H
theorem fn_okE (lamP : Nat → Addr → Addr → Str → HO → Prop) {x qual : Str} {f cc : Addr} {fd : FuncData} {N ps : List Str} {body : Cs} (F : FunC g.K x qual st f cc fd) (hm : g.mg x = some (.ref f)) (S : FnScope N ps (defScope st)) (hbd : Binds g.K fd ps [])
    (hb : ∀ (A : Around) (outer : List Env) (s : Shared) (H : Hp) (E : XK) (av : List Addr), DSs g k ⟨lamP, av⟩ (fX g N qual st f cc A outer s H E) (fW E) (defBody st) body) : FnOk g.P g.w g.K g.mg g.base (L2.CX g.P g.w) (k + 1) f fd ps (spM g ps.length (fnS N.length body)) := by
  obtain ⟨oc, od, kV, doc, pm, an, ct, osl, rfl, lk, hcd⟩ := F.ex
  refine fn_of lk hcd S (fun vs H Q E h => h.1) fun A outer s H vs Q E hr hsp => ?_
  obtain ⟨hl, Λ0, ι, ds, μ, r, m, rs, hF, hq⟩ := hsp
  have ok : XOk g k (fX g N qual st f cc A outer s H E) := ⟨rfl, rfl, rfl, rfl, rfl, rfl, hr, S.nd, passes_of rfl⟩
  have tk : Takes (fX g N qual st f cc A outer s H E) (fW E) := takes_of rfl rfl rfl rfl
  refine ⟨_, hb A outer s H E Λ0.av ok tk, ?_⟩
  have rs' : Reps g.K ⟨lamP, Λ0.av⟩ ι H ds vs := Reps.of_pure (Λ := ⟨lamP, Λ0.av⟩) ds rs
  have m' : MR g ⟨lamP, Λ0.av⟩ ι H μ := m.fr rfl
  have hF : (match body (ds.map some ++ List.replicate (N.length - ds.length) none) μ with
    | some (.nx _ μ') => some (Out.ok D.non μ')
    | some (.rt d μ') => if lamf d = true then some (.ok d μ') else none
    | some (.ex c _ μ') => some (.exc c μ')
    | _ => none) = some r := hF
  split at hF
  · rename_i ρ' μ' q
    cases hF
    exact ⟨ι, _, μ, _, LR.start rs', m', q, fun ι' H' σ' x' m2 _ => hq ι' H' .non x' (m2.fr rfl) rfl⟩
  · rename_i d μ' q
    split at hF
    · rename_i hd
      cases hF
      exact ⟨ι, _, μ, _, LR.start rs', m', q, fun ι' H' v x' m2 rv => hq ι' H' v x' (m2.fr rfl) (Rep.lam (Λ := ⟨lamP, Λ0.av⟩) (Λ' := Λ0.pure) rfl d hd rv)⟩
    · cases hF
  · rename_i cn ρ' μ' q
    cases hF
    exact ⟨ι, _, μ, _, LR.start rs', m', q, fun ι' H' σ' x' m2 _ => hq ι' H' x' (m2.fr rfl)⟩
  · cases hF
theorem fn_ok (lamP : Nat → Addr → Addr → Str → HO → Prop) {x qual : Str} {f cc : Addr} {fd : FuncData} {N ps : List Str} {body : Cs} (F : FunC g.K x qual st f cc fd) (hm : g.mg x = some (.ref f)) (S : FnScope N ps (defScope st)) (hbd : Binds g.K fd ps [])
    (hb : ∀ (A : Around) (outer : List Env) (s : Shared) (H : Hp) (E : XK) (av : List Addr), DSs g k ⟨lamP, av⟩ (fX g N qual st f cc A outer s H E) (fW E) (defBody st) body) : Fn g (k + 1) x ps.length (fnS N.length body) :=
  ⟨f, _, ps, hm, F.kp, hbd, fn_okE lamP F hm S hbd hb⟩
/-- the same with the function object told -/
def FnC (g : Gb) (k : Nat) (x : Str) (st : Stmt) (ps : List Str) (F : FnS) : Prop := ∃ f c fd, FunC g.K x x st f c fd ∧ g.mg x = some (.ref f) ∧ FnOk g.P g.w g.K g.mg g.base (L2.CX g.P g.w) k f fd ps (spM g ps.length F)
theorem FunC.inj {K : PySem.W.Frag} {x qual : Str} {f c c' : Addr} {fd fd' : FuncData} (a : FunC K x qual st f c fd) (b : FunC K x qual st f c' fd') : fd = fd' := by
  obtain ⟨_, _, _, _, _, _, _, _, _, h1, _⟩ := a.ex
  obtain ⟨_, _, _, _, _, _, _, _, _, h2, _⟩ := b.ex
  rw [h1] at h2
  injection h2 with h2
  injection h2 with _ _ h2
  injection h2
end
end Mi

set_option Elab.async false
set_option linter.all false
set_option maxRecDepth 100000
set_option maxHeartbeats 4000000
namespace Mi
open PySem L2 LamX
/-! ### lambdas -/
def bTold (ret en : Str) (fb : Cb D) : Cb D := fun ρ μ => match fb ρ μ with
  | some (.ok d m) => some (.ok d m)
  | some (.exc c m) => if c = en then some (.ok (.str ret) m) else none
  | none => none
/-- try: return a() / except en: return ret -/
structure ToldF (g : Gb) (x en ret a : Str) (st : Stmt) (ga ca : Addr) (fd : FuncData) (Ng : List Str) (p1 p2 p3 p4 p5 p6 p7 p8 : Pos) (jj : Nat) : Prop where
  F : FunC g.K x x st ga ca fd
  mgx : g.mg x = some (.ref ga)
  hb : Binds g.K fd [a] []
  S : FnScope Ng [a] (defScope st)
  n0 : Ng[0]? = some a
  va : Vis (defScope st) a
  body : defBody st = [.Try [.Return (some (.Call (.Name a p1) [] [] p2)) p3] [.ExceptHandler (some (.Name en p4)) none [.Return (some (.Constant (.str ret) jj p5)) p6] p7] [] [] p8]
  hge : (defScope st).names.lookup en = some .globalImplicit
  hde : (en == ("__debug__" : Str)) = false
  hd : (a == ("__debug__" : Str)) = false
  hcd : (a == ("__classdict__" : Str)) = false
  mge : g.mg en = some (.ref (g.cls en))
  exm : PySem.W.exmOne g.K (.ref (g.cls en)) (.ref (g.cls en)) = some true
section
variable {g : Gb} {k j k' : Nat} {Λ : Lr} {X : Cx} {W : WX} {fb ff : Cb D} {x en ret a q : Str} {st : Stmt} {ga ca cc PP : Addr} {fd : FuncData} {Ng : List Str} {p1 p2 p3 p4 p5 p6 p7 p8 p pos lpos : Pos} {jj : Nat} {params : Arguments} {body : Expr} {scope : Scope}
theorem ext_of_n {ι : List Addr} {H H' : Hp} (e : ExtN H H') : Ext ι H ι H' := ⟨⟨[], by simp, by simp⟩, fun a o h n _ => e a o h n, fun a n o h => by
  by_cases z : ∃ ps, o = .tbl ps
  · exact z
  · exact n o (e a o h fun ps hp => z ⟨ps, hp⟩)⟩
theorem MR.ofN {ι : List Addr} {H H' : Hp} {μ : Sto} (m : MR g Λ ι H μ) (e : ExtN H H') (t : Tabs g.T H') : MR g Λ ι H' μ := ⟨m.len, m.nd, fun n so q => by
  obtain ⟨a, h1, h2⟩ := m.ob n so q
  exact ⟨a, h1, h2.ext' (ext_of_n e) fun o h nt => e a o h nt⟩, t, fun a ha n => m.avs a ha ((ext_of_n (ι := []) e).nt a n)⟩
theorem XOk.lam {A : Around} {outer : List Env} {s : Shared} {H : Hp} {E : XK} {f c' : Addr} (ok : XOk g k X) (hr : Room k' (A.deeper (lamEnv X scope s.heap.objs.size f c'))) : XOk g k' (lamCx X A outer s H E scope f c') :=
  ⟨ok.P, ok.w, ok.K, ok.mg, ok.base, rfl, hr, ok.nd, passes_of rfl⟩
theorem told_rd {ι : List Addr} {H : Hp} {σ : St} {ρ : En} {μ : Sto} {r : Out D} {Q : VK} {CS : Addr} (hcs : g.cls en = CS) (hx : PySem.W.exmOne g.K (.ref (g.cls en)) (.ref CS) = some true) (l : LR g Λ ι H σ ρ) (m : MR g Λ ι H μ) (e : bTold ret en fb ρ μ = some r) (p : Post g Λ W ι H σ r Q) :
    rdE g Λ (fW fun cls _ H' => ∃ b, PySem.W.exmOne g.K cls (.ref CS) = some b ∧ (b = true → Q (.str ret) H') ∧ (b = false → False)) fb σ H Q := by
  unfold bTold at e
  split at e
  · rename_i d m' q
    cases e
    exact ⟨ι, ρ, μ, _, l, m, q, p⟩
  · rename_i c m' q
    split at e
    · rename_i hc
      cases e
      subst hc
      exact ⟨ι, ρ, μ, _, l, m, q, fun ι' H' x' m2 => ⟨true, hx, fun _ => p ι' H' (.str ret) x' m2 rfl, fun z => by cases z⟩⟩
    · cases e
  · cases e
theorem de_told (TF : ToldF g x en ret a st ga ca fd Ng p1 p2 p3 p4 p5 p6 p7 p8 jj) (TB : TabB g.base g.mg cc PP) (hmT : (PP, X.env.qual ++ "<lambda>") ∈ g.T) (hu : ∀ p ∈ g.T, p.1 = PP → p.2 = X.env.qual ++ "<lambda>") (hk : k' + 2 ≤ k) (L : lamSB X.env.scope scope = true)
    (hbody : ∀ (A : Around) (outer : List Env) (s : Shared) (H : Hp) (E : XK) (f c' : Addr), DE g k' Λ (lamCx X A outer s H E scope f c') (fW E) body fb)
    (hcode : X.env.code = .ref cc := by rfl) (hg : Gl X x := by rfl) (hdef : defaultsOf params X.env = ([], []) := by rfl) (hdb : (x == ("__debug__" : Str)) = false := by decide)
    (hbind : ∀ (q : Str) (cl : List (Str × Addr)) (pm cv ctv : Value), bindArgs (PySem.W.kla_fn "<lambda>" q params body scope cl pm cv ctv) ⟨[], []⟩ = pure [] := by intros; rfl) : DE g k Λ X W (.Call (.Name x p) [.Lambda params body scope lpos] [] pos) (bTold ret en fb) := fun ok tk => by
  obtain ⟨oc, od, kV, doc, pm, an, ct, osl, rfl, lk, hcd⟩ := TF.F.ex
  have hG : GivesTo X Ng x (defScope st) ga (.ref ca) (defBody st) a (X.env.qual ++ "<lambda>") (TTold X.K (g.cls en) ret) := by
    rw [TF.body]
    refine told_gives TF.hge (by rw [ok.mg]; exact TF.mge) TF.hde fun f => ?_
    have := TF.n0
    cases Ng with
    | nil => cases this
    | cons n ns => rfl
  refine PE.imp (pe_lamcall (t := fun E => rdE g Λ (fW E) fb) (T := g.T) (k := k') hg (by rw [ok.mg]; exact TF.mgx) (by rw [ok.K]; exact TF.F.kp) (by rw [ok.K]; exact lk) (by rw [ok.K]; exact hcd) (by rw [ok.K]; exact TF.hb) TF.S TF.n0 TF.va hG (by rw [ok.base, ok.mg]; exact TB) hcode hmT hu (ok.room.mono hk) (lamS_by L) hdef hbind
    (fun A outer s H E f c' hr => hbody A outer s H E f c' (ok.lam hr) (takes_of rfl rfl rfl rfl)) hdb TF.hd TF.hcd) fun σ H Q ⟨ι, ρ, μ, r, l, m, e, p⟩ => ?_
  refine ⟨m.tabs, fun H1 eN T1 => ?_⟩
  have x1 : Ext ι H ι H1 := ext_of_n eN
  show rdE g Λ (fW fun cls _ H' => ∃ b, PySem.W.exmOne X.K cls (.ref (g.cls en)) = some b ∧ (b = true → Q (.str ret) H') ∧ (b = false → False)) fb σ H1 Q
  rw [ok.K]
  exact told_rd rfl TF.exm (l.ext x1) (m.ofN eN T1) e (p.ext x1)
/-! a lambda as a value: without captured names -/
def LamO (f : Addr) (q : Str) (params : Arguments) (body : Expr) (scope : Scope) (c : Addr) : HO := .ext fun h => ∃ (pm ctv : Value), h.get? f = some (PySem.W.kla_obj "<lambda>" q params body scope [] pm c ctv)
def noFree (scope : Scope) : Bool := scope.names.all fun y => !decide (y.2 = .free)
theorem clo_nil {cells : List (Str × Addr)} : ∀ {names : List (Str × NameKind)} {acc : List (Str × Addr)}, (names.all fun y => !decide (y.2 = .free)) = true → cloFrom cells names acc = acc
  | [], _, _ => rfl
  | (n, kk) :: r, acc, h => by
    simp only [List.all_cons, Bool.and_eq_true, Bool.not_eq_true', decide_eq_false_iff_not] at h
    unfold cloFrom
    have : (kk == NameKind.free) = false := by
      cases kk <;> first | rfl | exact absurd rfl h.1
    rw [this]
    exact clo_nil h.2
/-- the n-th lambda of a frame means fbs[n] -/
def lamP (g : Gb) (k' : Nat) (fbs : List (Cb D)) (qual : Str) : Nat → Addr → Addr → Str → HO → Prop := fun n f c q o => q = qual ∧ ∃ params body scope fb, fbs[n]? = some fb ∧ o = LamO f q params body scope c ∧ lamSB scope scope = true ∧ noFree scope = true ∧
  (∀ (q : Str) (cl : List (Str × Addr)) (pm cv ctv : Value), bindArgs (PySem.W.kla_fn "<lambda>" q params body scope cl pm cv ctv) ⟨[], []⟩ = pure []) ∧
  ∀ (Λ : Lr) (X : Cx) (A : Around) (outer : List Env) (s : Shared) (H : Hp) (E : XK) (f c' : Addr), DE g k' Λ (lamCx X A outer s H E scope f c') (fW E) body fb
theorem lamS_free {sc : Scope} (h : lamSB scope scope = true) (n : noFree scope = true) : LamS sc scope := by
  have L := lamS_by h
  refine ⟨L.kind, L.co, L.gen, L.own, fun y hy e => ?_⟩
  have := List.all_eq_true.mp n y hy
  rw [e] at this
  simp at this
theorem lam_track {pins : List (Addr × Obj)} {σ : St} {H : Hp} {s : Shared} {E Q : Value → Shared → Prop} (I : Inv X pins σ H s) (TB : TabB X.base X.mg cc PP) (hcode : X.env.code = .ref cc) {T : List (Addr × Str)}
    (hm : (PP, X.env.qual ++ "<lambda>") ∈ T) (hu : ∀ p ∈ T, p.1 = PP → p.2 = X.env.qual ++ "<lambda>") (hT : Tabs T H) (hdef : defaultsOf params X.env = ([], [])) (nf : noFree scope = true)
    (h : ∀ (f c' : Addr) (H1 : Hp) (s' : Shared), Inv X pins σ H1 s' → ExtN H H1 → Tabs T H1 → H1 f = some (LamO f (X.env.qual ++ "<lambda>") params body scope c') → H f = none → H c' = none ∨ H c' = some (CodeO c' (X.env.qual ++ "<lambda>")) → H1 c' = some (CodeO c' (X.env.qual ++ "<lambda>")) → Q (.ref f) s') :
    wpAny (model X.prog X.w) X.A (eval (.Lambda params body scope pos) X.env) Q E s := by
  obtain ⟨ps, hP, ht, ha⟩ := hT _ hm
  refine PySem.W.kla_eval hdef ?_
  have nfree : ∀ y ∈ scope.names, y.2 = .free → ∃ c, X.env.cells.lookup y.1 = some c := fun y hy e => by
    have := List.all_eq_true.mp nf y hy
    rw [e] at this
    simp at this
  have ec : cloFrom X.env.cells scope.names [] = [] := clo_nil nf
  have hcl := closure_ok (env := X.env) nfree
  rw [ec] at hcl
  have bP : s.heap.BuiltinsAt X.mg PP := TB.bm.keeps I.bk
  have hP' : s.heap.get? PP = some { cls := .none, data := .fields ps } := I.hok PP _ hP
  have lo : ∀ {f c' : Addr} {pm ctv : Value} {h2 : Heap}, h2.get? f = some (PySem.W.kla_obj "<lambda>" (X.env.qual ++ "<lambda>") params body scope [] pm c' ctv) → ∀ H2 : Hp, ObjOk X.prog X.w H2 h2 f (LamO f (X.env.qual ++ "<lambda>") params body scope c') :=
    fun {f c' pm ctv h2} e H2 => ⟨⟨pm, ctv, e⟩, ⟨_, e⟩, fun h3 h4 ⟨pm, ctv, q⟩ st => ⟨pm, ctv, st _ q⟩⟩
  cases hc : codeAmong pos ps.toList with
  | some cv =>
    obtain ⟨c', e, hco⟩ := ha pos cv hc
    subst e
    refine PySem.W.kla_makeFunctionHit (mg := X.mg) (c := cc) (P := PP) (ps := ps) hcl I.ok.glob (I.mod.glob.keeps I.bk) hcode (TB.code.keeps I.bk) hP' ht hc bP fun ctv h' tk hx hsz => ?_
    have hn : H h'.objs.size = none := I.hok.fresh hsz
    have ge := Heap.get?_push_size h' (o := PySem.W.kla_obj "<lambda>" (X.env.qual ++ "<lambda>") params body scope [] ((X.mg "__name__").getD .none) c' ctv) rfl
    have I1 := I.laid (t' := tk) (fun b o e => Heap.get?_push_of_some _ (hx b o e)) hsz (lo ge _)
    have sm : Sam H (upd H h'.objs.size (LamO h'.objs.size (X.env.qual ++ "<lambda>") params body scope c')) := sam_upd hn
    exact h h'.objs.size c' _ _ I1 (ExtN.of sm) (hT.ext sm) upd_same hn (.inr hco) (sm _ _ hco)
  | none =>
    refine PySem.W.kla_makeFunction (mg := X.mg) (c := cc) (P := PP) (ps := ps) hcl I.ok.glob (I.mod.glob.keeps I.bk) hcode (TB.code.keeps I.bk) hP' ht hc TB.gP bP fun c' ctv h' tk hx hge hlt hrec htb => ?_
    obtain ⟨c2, oc, vs, t, e2, hoc, hd, hv⟩ := hrec
    cases e2
    have hsz : s.heap.objs.size ≤ h'.objs.size := Nat.le_trans hge (Nat.le_of_lt hlt)
    have nC : H c' = none := I.hok.fresh hge
    have nF : H h'.objs.size = none := I.hok.fresh hsz
    have I1 := inv_table (t' := tk) (more := #[rawInt pos.line, rawInt pos.col, .ref c']) (h' := h') (q := X.env.qual ++ "<lambda>") I hP hx htb hge ⟨oc, vs, t, hoc, hd, hv⟩
    generalize hH1 : upd (upd H PP (.tbl (ps ++ #[rawInt pos.line, rawInt pos.col, .ref c']))) c' (CodeO c' (X.env.qual ++ "<lambda>")) = H1 at I1
    have hE : ExtN H H1 := fun b o e n => by
      rw [← hH1, upd_ne (ne_of_none e nC), upd_ne (fun z => n ps (Option.some.inj (e.symm.trans (by rw [z]; exact hP))))]
      exact e
    have eL : (ps ++ #[rawInt pos.line, rawInt pos.col, .ref c']).toList = ps.toList ++ [rawInt pos.line, rawInt pos.col, .ref c'] := by simp
    have hc1 : H1 c' = some (CodeO c' (X.env.qual ++ "<lambda>")) := by rw [← hH1, upd_same]
    have T1 : Tabs T H1 := fun p hp => by
      by_cases hb : p.1 = PP
      · rw [hu p hp hb, hb]
        refine ⟨_, by rw [← hH1, upd_ne (ne_of_none hP nC), upd_same], by rw [eL]; exact PySem.TriplesOk_snoc _ _ _ _ ht, fun p' cv hcv => ?_⟩
        rw [eL] at hcv
        rcases among_app _ ht hcv with z | z
        · obtain ⟨c0, e1, e2⟩ := ha p' cv z
          exact ⟨c0, e1, hE _ _ e2 codeO_ne⟩
        · exact ⟨c', z, hc1⟩
      · obtain ⟨ps', a1, a2, a3⟩ := hT p hp
        refine ⟨ps', by rw [← hH1, upd_ne (ne_of_none a1 nC), upd_ne hb]; exact a1, a2, fun p' cv hcv => ?_⟩
        obtain ⟨c0, e1, e2⟩ := a3 p' cv hcv
        exact ⟨c0, e1, hE _ _ e2 codeO_ne⟩
    have n1 : H1 h'.objs.size = none := by
      have q1 : h'.objs.size ≠ c' := Nat.ne_of_gt hlt
      have q2 : h'.objs.size ≠ PP := Nat.ne_of_gt (Nat.lt_of_lt_of_le (Heap.lt_size hP') hsz)
      rw [← hH1, upd_ne q1, upd_ne q2]
      exact nF
    have ge := Heap.get?_push_size h' (o := PySem.W.kla_obj "<lambda>" (X.env.qual ++ "<lambda>") params body scope [] ((X.mg "__name__").getD .none) c' ctv) rfl
    have I2 := I1.laid (t' := tk) (h' := h'.push (PySem.W.kla_obj "<lambda>" (X.env.qual ++ "<lambda>") params body scope [] ((X.mg "__name__").getD .none) c' ctv)) (fun b o e => Heap.get?_push_of_some _ e) (Nat.le_refl _) (lo ge _)
    have sm : Sam H1 (upd H1 h'.objs.size (LamO h'.objs.size (X.env.qual ++ "<lambda>") params body scope c')) := sam_upd n1
    exact h h'.objs.size c' _ _ I2 (hE.trans (ExtN.of sm)) (T1.ext sm) upd_same nF (.inl nC) (sm _ _ hc1)
theorem de_lam (n : Nat) {fbs : List (Cb D)} (TB : TabB g.base g.mg cc PP) (hmT : (PP, X.env.qual ++ "<lambda>") ∈ g.T) (hu : ∀ p ∈ g.T, p.1 = PP → p.2 = X.env.qual ++ "<lambda>") (hΛ : Λ.lam = lamP g k' fbs (X.env.qual ++ "<lambda>")) (hn : fbs[n]? = some fb) (hs : lamSB scope scope = true) (nf : noFree scope = true)
    (hbody : ∀ (Λ : Lr) (X : Cx) (A : Around) (outer : List Env) (s : Shared) (H : Hp) (E : XK) (f c' : Addr), DE g k' Λ (lamCx X A outer s H E scope f c') (fW E) body fb)
    (hcode : X.env.code = .ref cc := by rfl) (hdef : defaultsOf params X.env = ([], []) := by rfl)
    (hbind : ∀ (q : Str) (cl : List (Str × Addr)) (pm cv ctv : Value), bindArgs (PySem.W.kla_fn "<lambda>" q params body scope cl pm cv ctv) ⟨[], []⟩ = pure [] := by intros; rfl) : DE g k Λ X W (.Lambda params body scope pos) (bCon (.lam n)) := fun ok tk => by
  refine ⟨fun pins s σ H Q I ⟨ι, ρ, μ, r, l, m, e, p⟩ => ?_⟩
  cases e
  refine lam_track I (by rw [ok.base, ok.mg]; exact TB) hcode hmT hu m.tabs hdef nf fun f c' H1 s' I1 eN T1 hf hfn hc0 hc1 => ?_
  have x1 : Ext ι H ι H1 := ext_of_n eN
  have fr := m.fresh hfn
  have frc : c' ∉ ι := by
    rcases hc0 with z | z
    · exact (m.fresh z).1
    · intro hm
      unfold CodeO at z
      rcases m.mem hm with ⟨_, q⟩ | ⟨_, q⟩ | ⟨_, _, _, q⟩ <;> rw [z] at q <;> cases q
  exact ⟨.ref f, H1, I1, rfl, p ι H1 (.ref f) x1 (m.ofN eN T1) ⟨f, c', _, _, rfl, hf, (by intro ps z; unfold LamO at z; cases z), fr, hc1, frc, by rw [hΛ]; exact ⟨rfl, params, body, scope, fb, hn, rfl, hs, nf, hbind, hbody⟩⟩⟩
end
end Mi

set_option Elab.async false
set_option linter.all false
set_option maxRecDepth 100000
set_option maxHeartbeats 4000000
namespace Mi
open PySem L2 LamX
/-! ### a lambda that a name holds, handed to the def that calls it -/
def bToldV (ret en : Str) (fbs : List (Cb D)) (ff : Cb D) : Cb D := fun ρ μ => ob (ff ρ μ) fun d μ1 => match d with
  | .lam n => match fbs[n]? with
    | some fb => bTold ret en fb ρ μ1
    | none => none
  | _ => none
section
variable {g : Gb} {k j k' : Nat} {Λ : Lr} {X : Cx} {W : WX} {fb ff : Cb D} {x en ret a q : Str} {st : Stmt} {ga ca cc PP : Addr} {fd : FuncData} {Ng : List Str} {p1 p2 p3 p4 p5 p6 p7 p8 p pos lpos : Pos} {jj : Nat} {params : Arguments} {body : Expr} {scope : Scope}
theorem pe_act0 {pins : List (Addr × Obj)} {σ : St} {H : Hp} {s : Shared} {sg : Scope} {f c' : Addr} {cdg : Value} {i : Nat} {pn : List (Addr × Obj)} {xe : Value → Shared → Prop} {WW : WX} {E : XK} {tb : TE}
    (I : Inv X pins σ H s) (hs : lamSB scope scope = true) (nf : noFree scope = true) (hq : X.env.qual ++ "<lambda>" = q)
    (hbind : ∀ (q : Str) (cl : List (Str × Addr)) (pm cv ctv : Value), bindArgs (PySem.W.kla_fn "<lambda>" q params body scope cl pm cv ctv) ⟨[], []⟩ = pure [])
    (tk : Takes ((cxOf C8.CX0 X.prog X.w X.K X.mg X.base Ng x sg ga cdg X.A X.stack s H C8.E0).tr pn xe) WW) (hW : ∀ cls d σ' H', E cls d H' → WW cls d σ' H') (hr : Room (k + 1) (X.A.deeper (PyProof.Rows.envOfC x sg s.heap.objs.size ga cdg)))
    (hbody : ∀ (A : Around) (outer : List Env) (s : Shared) (H : Hp), Room k (A.deeper (lamEnv X scope s.heap.objs.size f c')) → PE (lamCx X A outer s H E scope f c') body tb)
    (hN : Ng[i]? = some a) (hv : Vis sg a) (hd : (a == ("__debug__" : Str)) = false) (hcd : (a == ("__classdict__" : Str)) = false) :
    PE ((cxOf C8.CX0 X.prog X.w X.K X.mg X.base Ng x sg ga cdg X.A X.stack s H C8.E0).tr pn xe) (.Call (.Name a p1) [] [] p2)
      (fun σZ HZ Q => σZ[i]? = some (some (.ref f)) ∧ HZ c' = some (CodeO c' q) ∧ HZ f = some (LamO f q params body scope c') ∧ tb σ HZ Q) := by
  have L : LamS X.env.scope scope := lamS_free hs nf
  subst hq
  refine ⟨fun pinsZ sZ σZ HZ Q IZ ⟨h1, hc, hl, ht⟩ => ?_⟩
  refine wpAny_Call_Name_kw (thn ((pe_var (pos := p1) (i := i) hN hv hd hcd).run pinsZ sZ σZ HZ (fun v H1 => v = .ref f ∧ H1 = HZ) IZ ⟨.ref f, h1, rfl, rfl⟩) fun u s1 ⟨v, H1, I1, r1, ev, eH⟩ => ?_)
  subst ev
  rw [eH] at I1
  obtain rfl : u = Value.ref f := r1
  obtain ⟨⟨pm, ctv, of1⟩, _, _⟩ := I1.hok f _ hl
  have ec : ([] : List (Str × Addr)) = cloFrom X.env.cells scope.names [] := (clo_nil nf).symm
  rw [ec] at of1
  refine PySem.W.callWith_F0 ⟨_, _, _, _, of1⟩ ?_
  have un : Un (frs X.stack) [] H HZ s.heap s1.heap := I1.base
  obtain ⟨⟨oc, vs, t, hoc, hdc, hvc⟩, _, _⟩ := I1.hok c' _ hc
  have rc : codeAny (model X.prog X.w) (X.A.deeper (PyProof.Rows.envOfC x sg s.heap.objs.size ga cdg)) (.call (.ref f) ⟨[], []⟩) (CR (L2.CX X.prog X.w) (PyProof.Rows.envOfC x sg s.heap.objs.size ga cdg :: X.stack) X.prog X.w HZ s1 Q E) s1 := by
    refine PySem.W.kla_callFunE hr.depth of1 rfl L.co L.gen rfl ⟨c', oc, vs, t, rfl, hoc, hdc, hvc⟩ ?_
    rw [hbind]
    refine wpAny_pure (wpAny_newFunctionEnv (fun y hy => (L.own y hy).2) (fun y hy => absurd hy (by simp)) (fun h₁ hns hsb => ⟨I1.nolimit.fresh _ hsb, ?_⟩) L.kind)
    show codeAny _ _ (.expr body (lamEnv X scope s1.heap.objs.size f c')) _ _
    have kp : ∀ b o, s1.heap.get? b = some o → h₁.get? b = some o := fun b o e => hsb.extBut b o (Nat.ne_of_lt (Heap.lt_size e)) (Heap.get?_push_of_some _ e)
    have J : Inv (lamCx X (X.A.deeper (PyProof.Rows.envOfC x sg s.heap.objs.size ga cdg)) (PyProof.Rows.envOfC x sg s.heap.objs.size ga cdg :: X.stack) s1 HZ E scope f c') [] σ HZ { s1 with heap := h₁, toks := s1.toks + ([] : List (Str × Value)).length } :=
      lam_start2 I L I1.env0 hr.hd un hns kp
    refine PySem.W.kla_codeExpr (wpAny_mono ((hbody _ _ s1 HZ (hr.deeper _)).run [] _ _ HZ Q J ht) (fun v s' hq => ?_) fun e s' hq => hq)
    obtain ⟨w', H', J', rv, q⟩ := hq
    exact ⟨w', H', J'.os, J'.bare, J'.base, J'.hok, rv, q⟩
  have hx : Passes (L2.CX X.prog X.w) ((cxOf C8.CX0 X.prog X.w X.K X.mg X.base Ng x sg ga cdg X.A X.stack s H C8.E0).tr pn xe) E := passes_call tk hW
  refine wpAny_call (codeAny_mono rc fun r s' hq => ?_)
  cases r with
  | error e => exact hx pinsZ σZ HZ s1 e s' I1 hq
  | ok fl =>
    cases fl with
    | ret u => exact I1.after hq
    | next => exact False.elim hq
    | brk => exact False.elim hq
    | cont => exact False.elim hq
theorem de_toldv {e : Expr} {fbs : List (Cb D)} (TF : ToldF g x en ret a st ga ca fd Ng p1 p2 p3 p4 p5 p6 p7 p8 jj) (hΛ : Λ.lam = lamP g k' fbs q) (hk : k' + 2 ≤ k) (he : DE g k Λ X W e ff) (hq : X.env.qual ++ "<lambda>" = q := by rfl) (hg : Gl X x := by rfl) (hdb : (x == ("__debug__" : Str)) = false := by decide)
    (hse : starEach [e] X.env = (false, eval e X.env) :: starEach [] X.env := by rfl) (hpl : (backTo pos (starEach [] X.env)).any (·.1) = false := by rfl) : DE g k Λ X W (.Call (.Name x p) [e] [] pos) (bToldV ret en fbs ff) := fun ok tk => by
  obtain ⟨oc, od, kV, doc, pm, an, ct, osl, rfl, lk, hcd⟩ := TF.F.ex
  refine ⟨fun pins s σ H Q I ⟨ι, ρ, μ, r, l, m, e2, p⟩ => ?_⟩
  have hm : X.mg x = some (.ref ga) := by rw [ok.mg]; exact TF.mgx
  refine wpAny_Call_Name_kw (ld_glob I hg hm ?_ hdb)
  refine PySem.W.callWith_K (h₀ := X.base) I.ok.mod.kin (by rw [ok.K]; exact TF.F.kp) ?_ hse hpl
  rw [hse]
  refine Calls.spliced_cons (thn ((he ok tk).run pins s σ H _ I (go_E (X1 := True) (R := fun v H1 => ∃ n ι1 μ1, Ext ι H ι1 H1 ∧ MR g Λ ι1 H1 μ1 ∧ LR g Λ ι1 H1 σ ρ ∧ Rep g.K Λ ι1 H1 (.lam n) v ∧ (match fbs[n]? with
      | some fb => bTold ret en fb ρ μ1
      | none => none) = some r) l m e2 p.px fun d μ1 ι1 H1 v e1 e3 x1 m1 l1 r1 => ?_)) fun u s' ⟨v, H1, I1, r1, q1⟩ => ?_)
  · split at e3
    · exact ⟨_, ι1, μ1, x1, m1, l1, r1, e3⟩
    · cases e3
  obtain ⟨n, ι1, μ1, x1, m1, l1, ⟨f, c', q', o, e4, hf, nt, fr, hc, frc, hΛ2⟩, e5⟩ := q1
  rw [hΛ] at hΛ2
  obtain ⟨e6, params, body, scope, fb, hn, e7, hs, nf, hbind, hbody⟩ := hΛ2
  subst e6 e7 e4
  obtain rfl : u = Value.ref f := r1
  rw [hn] at e5
  refine Calls.spliced_nil ⟨I1.kIn, ?_⟩
  have hG : GivesTo X Ng x (defScope st) ga (.ref ca) (defBody st) a q' (TTold X.K (g.cls en) ret) := by
    rw [TF.body]
    refine told_gives TF.hge (by rw [ok.mg]; exact TF.mge) TF.hde fun f => ?_
    have := TF.n0
    cases Ng with
    | nil => cases this
    | cons n ns => rfl
  have rc : codeAny (model X.prog X.w) X.A (.call (.ref ga) ⟨[.ref f], []⟩) (CR C8.CX0 X.stack X.prog X.w H1 s' Q C8.E0) s' := by
    refine run_ofS (N := Ng) (ps := [a]) (us := [.ref f]) (vs := [.ref f]) (by rw [ok.K]; exact lk) (by rw [ok.K]; exact hcd) TF.S (ok.room.mono hk) I1.env0 ((show Binds X.K _ [a] [] by rw [ok.K]; exact TF.hb) s' [.ref f] I1.kIn rfl) (.cons rfl .nil) rfl fun hr' => ?_
    have hT : TTold X.K (g.cls en) ret (fun E H' Q' => H' f = some (LamO f q' params body scope c') ∧ rdE g Λ (fW E) fb σ H' Q') H1 Q := by
      refine ⟨hf, ?_⟩
      rw [ok.K]
      exact told_rd rfl TF.exm l1 m1 e5 (p.ext x1)
    obtain ⟨t', ht', hq'⟩ := hG f c' s' H1 Q (fun E H' Q' => H' f = some (LamO f q' params body scope c') ∧ rdE g Λ (fW E) fb σ H' Q')
      (fun WW pn xe E p1 p2 tk hW => pe_act0 (i := 0) I1 hs nf hq hbind tk hW hr' (fun A outer s H hr2 => hbody Λ X A outer s H E f c' (ok.lam hr2) (takes_of rfl rfl rfl rfl)) TF.n0 TF.va TF.hd TF.hcd) hc hT
    exact ⟨t', ht'.nox, hq'⟩
  refine wpAny_call (codeAny_mono rc fun r s2 hq => ?_)
  cases r with
  | error e => exact (show False from hq).elim
  | ok fl =>
    cases fl with
    | ret u => exact I1.after hq
    | next => exact False.elim hq
    | brk => exact False.elim hq
    | cont => exact False.elim hq
end
end Mi

set_option Elab.async false
set_option linter.all false
set_option maxRecDepth 100000
set_option maxHeartbeats 4000000
namespace Mi
open PySem L2
/-! ### a range with the step -1, list(range(n)), dicts -/
def dnD (i : Int) (n : Nat) : List D := (List.range n).map fun j => .int (i - (j : Nat))
def bRng3n (f : Cb (List D)) : Cb (List D) := fun ρ μ => ob (f ρ μ) fun ds μ1 => match ds with
  | [.int i, .int j, .int c] => if c = -1 ∧ (-4611686018427387904 ≤ i ∧ i < 4611686018427387904) ∧ -4611686018427387904 ≤ j ∧ j < 4611686018427387904 then some (.ok (dnD i (i - j).toNat) μ1) else none
  | _ => none
def bLstRg (f : Cb D) : Cb D := fun ρ μ => ob (f ρ μ) fun d μ1 => match d with
  | .int j => if 0 ≤ j ∧ j ≤ 16777216 then some (.ok (.lst (rngD 0 j.toNat)) μ1) else none
  | _ => none
def bVals : List (Key × Cb D) → Cb (List D)
  | [] => bNil
  | kf :: r => bCons kf.2 (bVals r)
def bDisp (kfs : List (Key × Cb D)) : Cb D := fun ρ μ => if kfs.length ≤ 15 ∧ (kfs.map (·.1)).Nodup then ob (bVals kfs ρ μ) fun xs μ1 => some (.ok (.dct (kfs.map (·.1)) xs) μ1) else none
def keyD : D → Option Key
  | .int i => some (.inl i)
  | .str x => some (.inr x)
  | _ => none
def valD : List Key → List D → Key → Option D
  | k :: ks, x :: xs, j => if k = j then some x else valD ks xs j
  | _, _, _ => none
def dGet (μ : Sto) (x y : D) : Option D := match keyD y with
  | some k => match x with
    | .dct ks xs => valD ks xs k
    | .ref n => match μ[n]? with
      | some (.dct ks xs) => valD ks xs k
      | _ => none
    | _ => none
  | none => none
section
variable {g : Gb} {k : Nat} {Λ : Lr} {X : Cx} {W : WX} {vs : List Nat} {a b c tg : Expr} {fa fb fc fo fi : Cb D} {pos pos' : Pos} {es : List Expr} {fs : Cb (List D)}
theorem itk_dn {ι : List Addr} {H : Hp} (i : Int) (n : Nat) : Itk g Λ ι H (Itc i (-1) n) (dnD i n) := fun Λ' _ ι2 H2 μ2 _ _ j => by
  have hl : (dnD i n).length = n := by unfold dnD; simp
  refine ⟨fun h => by rw [hl] at h; exact h, fun d hd => ?_⟩
  have hi : j < n := by
    have := (List.getElem?_eq_some_iff.mp hd).1
    rw [hl] at this; exact this
  refine ⟨hi, fun x H3 ⟨e1, e2⟩ => ?_⟩
  rw [e1, e2]
  unfold dnD at hd
  rw [List.getElem?_map, List.getElem?_range hi] at hd
  cases hd
  exact ⟨fun _ _ h => h, by show V.int _ = V.int _; congr 1; omega⟩
theorem di_rng3n {p : Pos} (hm : g.mg "range" = none) (ha : DA g k Λ X W [a, b, c] fs) (hg : Gl X "range" := by rfl) (hs : starEach [a, b, c] X.env = (false, eval a X.env) :: starEach [b, c] X.env := by rfl) (hpl : (backTo pos (starEach [b, c] X.env)).any (·.1) = false := by rfl) :
    DI g k Λ X W tg (.Call (.Name "range" p) [a, b, c] [] pos) (bRng3n fs) := fun ok tk =>
  PI.imp (pi_range3 hg (by rw [ok.mg]; exact hm) (ha ok tk) hs hpl) fun σ H R ⟨ι, ρ, μ, r, l, m, e, p⟩ => goI_A l m e (by cases r with | ok _ _ => trivial | exc _ _ => exact p) fun ds μ1 ι1 H1 us e1 e2 x1 m1 l1 r1 => by
    split at e2
    · split at e2
      · rename_i hj
        cases e2
        obtain ⟨v, u, w, rfl, rv, ru, rw'⟩ := r1.inv3
        cases rv; cases ru; cases rw'
        obtain ⟨rfl, hj⟩ := hj
        exact ⟨_, _, _, _, rfl, RgC.neg (by omega) (by omega) (by omega) (by omega), p ι1 H1 _ x1 m1 (itk_dn _ _)⟩
      · cases e2
    · cases e2
theorem rg_reps {ι : List Addr} {H : Hp} {j : Int} : Reps g.K Λ ι H (rngD 0 j.toNat) (rgV 0 j) := by
  have h1 : rngD 0 j.toNat = ((List.range j.toNat).map fun i => (0 + (i : Nat) : Int)).map .int := by unfold rngD; rw [List.map_map]; rfl
  have h2 : rgV 0 j = ((List.range j.toNat).map fun i => (0 + (i : Nat) : Int)).map V.int := by unfold rgV; rw [List.map_map, Int.sub_zero]; rfl
  rw [h1, h2]
  exact Reps.of_ints
theorem de_lstRg {p p2 pos pos2 : Pos} (hm : g.mg "list" = none) (hmr : g.mg "range" = none) (ha : DE g k Λ X W a fa) (hg : Gl X "list" := by rfl) (hgr : Gl X "range" := by rfl) (na : starEach [a] X.env = (false, eval a X.env) :: starEach [] X.env := by rfl)
    (na2 : starEach [.Call (.Name "range" p2) [a] [] pos2] X.env = (false, eval (.Call (.Name "range" p2) [a] [] pos2) X.env) :: starEach [] X.env := by rfl) : DE g k Λ X W (.Call (.Name "list" p) [.Call (.Name "range" p2) [a] [] pos2] [] pos) (bLstRg fa) := fun ok tk =>
  PE.imp (pe_listRg ok.calm hg (by rw [ok.mg]; exact hm) (prg_1 hgr (by rw [ok.mg]; exact hmr) (ha ok tk) na) na2) fun σ H Q ⟨ι, ρ, μ, r, l, m, e, p⟩ => go_E (X1 := True) l m e p.px fun d μ1 ι1 H1 v e1 e2 x1 m1 l1 r1 => by
    split at e2
    · split at e2
      · rename_i hz
        cases e2; cases r1
        refine ⟨_, rfl, RgOk.of_le (Int.le_refl 0) hz.2 (by omega) hz.1, fun q hq => ?_⟩
        obtain ⟨y1, y2, y3⟩ := new_lst m1 hq (rg_reps (g := g) (Λ := Λ))
        exact p _ _ _ (x1.trans y1) y2 y3
      · cases e2
    · cases e2
/-! displays -/
def tPs (g : Gb) (Λ : Lr) (W : WX) : List (Key × Cb D) → List (TE × TE)
  | [] => []
  | kf :: r => ((fun _ H Q => Q (kV kf.1) H), (fun σ H Q => ∃ Λ' : Lr, Λ'.lam = Λ.lam ∧ rdE g Λ' W kf.2 σ H Q)) :: tPs g Λ W r
def DPs (g : Gb) (k : Nat) (Λ : Lr) (X : Cx) (W : WX) (pos : Pos) (keys : List (Option Expr)) (values : List Expr) (kfs : List (Key × Cb D)) : Prop := XOk g k X → Takes X W → PPs X pos keys values (tPs g Λ W kfs)
theorem dps_nil : DPs g k Λ X W pos [] [] [] := fun _ _ => pps_nil
theorem dps_str {x : Str} {j : Nat} {p : Pos} {ks : List (Option Expr)} {es : List Expr} {kfs : List (Key × Cb D)} (h : ∀ Λ' : Lr, Λ'.lam = Λ.lam → DE g k Λ' X W a fa) (hr : DPs g k Λ X W pos ks es kfs) : DPs g k Λ X W pos (some (.Constant (.str x) j p) :: ks) (a :: es) ((.inr x, fa) :: kfs) := fun ok tk =>
  pps_cons (PE.imp pe_str fun _ _ _ h => h) (pe_any fun Λ' hl => h Λ' hl ok tk) (hr ok tk)
theorem dps_int {x : Int} {j : Nat} {p : Pos} {ks : List (Option Expr)} {es : List Expr} {kfs : List (Key × Cb D)} (h : ∀ Λ' : Lr, Λ'.lam = Λ.lam → DE g k Λ' X W a fa) (hr : DPs g k Λ X W pos ks es kfs) : DPs g k Λ X W pos (some (.Constant (.int x) j p) :: ks) (a :: es) ((.inl x, fa) :: kfs) := fun ok tk =>
  pps_cons (PE.imp pe_int fun _ _ _ h => h) (pe_any fun Λ' hl => h Λ' hl ok tk) (hr ok tk)
theorem ps_rd {p : Addr} {σ : St} {ρ : En} {r : Out (List D)} : ∀ (kfs : List (Key × Cb D)) (ι : List Addr) (H : Hp) (μ : Sto) (Q : List (V × V) → Hp → Prop), LR g (Λ.add p) ι H σ ρ → MR g (Λ.add p) ι H μ → bVals kfs ρ μ = some r →
    (match r with
      | .ok ds μ' => ∀ ι' H' us, Ext ι H ι' H' → MR g (Λ.add p) ι' H' μ' → Reps g.K (Λ.add p) ι' H' ds us → kfs.length = us.length → Q (((kfs.map (·.1)).zip us).map fun kv => (kV kv.1, kv.2)) H'
      | .exc c μ' => ∀ ι' H', Ext ι H ι' H' → MR g (Λ.add p) ι' H' μ' → W (.ref (g.cls c)) none σ H') → tPairs (tPs g Λ W kfs) σ H Q
  | [], ι, H, μ, Q, l, m, e, q => by cases e; exact q ι H [] (.refl _ _) m rfl rfl
  | kf :: kfs, ι, H, μ, Q, l, m, e, q => by
    refine ⟨Λ.add p, rfl, go_E (X1 := True) l m (show ob (kf.2 ρ μ) _ = some r from e) (fun c μ1 er => by subst er; exact q) fun d μ1 ι1 H1 v e1 e2 x1 m1 l1 r1 => ?_⟩
    cases q2 : bVals kfs ρ μ1 with
    | none => rw [q2] at e2; cases e2
    | some o =>
      rw [q2] at e2
      refine ps_rd kfs ι1 H1 μ1 _ l1 m1 q2 ?_
      cases o with
      | exc c μ2 => cases e2; exact fun ι' H' x' m' => q ι' H' (x1.trans x') m'
      | ok ds μ2 =>
        cases e2
        exact fun ι' H' us x' m' rs hl => q ι' H' (v :: us) (x1.trans x') m' ⟨v, us, rfl, Rep.ext x' d r1, rs⟩ (by simp [hl])
theorem any_false {ks : List Key} {us : List V} {k : Key} (h : k ∉ ks) : ((ks.zip us).any fun kv => decide (kv.1 = k)) = false := by
  rw [List.any_eq_false]
  intro x hx
  have := (List.of_mem_zip (a := x.1) (b := x.2) hx).1
  simp only [decide_eq_true_eq]
  intro e
  rw [e] at this
  exact h this
theorem merge_nodup : ∀ (ks : List Key) (us : List V) (ks0 : List Key) (us0 : List V), ks0.length = us0.length → (ks0 ++ ks).Nodup → mergeK (ks0.zip us0) (ks.zip us) = ks0.zip us0 ++ ks.zip us
  | [], us, ks0, us0, hl, hn => by simp [mergeK]
  | k :: ks, [], ks0, us0, hl, hn => by simp [mergeK]
  | k :: ks, u :: us, ks0, us0, hl, hn => by
    have hk : k ∉ ks0 := by
      intro hm
      have := (List.nodup_append.mp hn).2.2 k hm k List.mem_cons_self
      exact this rfl
    have e : putK (ks0.zip us0) k u = (ks0 ++ [k]).zip (us0 ++ [u]) := by
      unfold putK
      rw [any_false hk, if_neg (by decide), List.zip_append hl]
      rfl
    show mergeK (putK (ks0.zip us0) k u) (ks.zip us) = _
    rw [e, merge_nodup ks us (ks0 ++ [k]) (us0 ++ [u]) (by simp [hl]) (by simpa using hn), List.zip_append hl]
    simp
theorem zip_fst : ∀ {ks : List Key} {us : List V}, ks.length = us.length → (ks.zip us).map (·.1) = ks
  | [], _, _ => by simp
  | k :: ks, [], h => by cases h
  | k :: ks, u :: us, h => by simp [zip_fst (ks := ks) (us := us) (by simpa using h)]
theorem zip_snd : ∀ {ks : List Key} {us : List V}, ks.length = us.length → (ks.zip us).map (·.2) = us
  | [], [], _ => by simp
  | [], _ :: _, h => by cases h
  | k :: ks, [], h => by cases h
  | k :: ks, u :: us, h => by simp [zip_snd (ks := ks) (us := us) (by simpa using h)]
theorem de_disp {keys : List (Option Expr)} {values : List Expr} {kfs : List (Key × Cb D)} (h : DPs g k Λ X W pos keys values kfs) (hall : keys.all (·.isSome) = true := by rfl) (hl : keys.length = values.length := by rfl) (h0 : keys ≠ [] := by intro z; cases z) (h15 : keys.length ≤ 15 := by decide) : DE g k Λ X W (.Dict keys values pos) (bDisp kfs) := fun ok tk =>
  PE.imp (pe_disp (h ok tk) hall hl h0 h15) fun σ H Q ⟨ι, ρ, μ, r, l, m, e, p⟩ => by
    unfold bDisp at e
    split at e
    · rename_i hk
      intro q hq
      have fr := m.fresh hq
      have lq : LR g (Λ.add q) ι (upd H q (.dK [])) σ ρ := LR.add l hq
      have mq : MR g (Λ.add q) ι (upd H q (.dK [])) μ := m.add hq (by intro ps z; cases z)
      have x0 : Ext ι H ι (upd H q (.dK [])) := .of_sam (sam_upd hq)
      cases q2 : bVals kfs ρ μ with
      | none => rw [q2] at e; cases e
      | some o =>
        rw [q2] at e
        refine ps_rd kfs ι _ μ _ lq mq q2 ?_
        cases o with
        | exc c μ2 => cases e; exact fun ι' H' x' m' => p ι' H' (x0.trans x') m'.sub
        | ok ds μ2 =>
          cases e
          intro ι' H' us x' m' rs hl
          have hd : H' q = some (.dK []) := x'.keep q _ upd_same (by intro ps z; cases z) fr.1
          have nq : q ∉ ι' := x'.notin upd_same (by intro ps z; cases z) fr.1
          have hl' : (kfs.map (·.1)).length = us.length := by simpa using hl
          refine ⟨hd, (kfs.map (·.1)).zip us, rfl, by rw [List.length_zip]; simp; omega, ?_⟩
          have em : mergeK [] ((kfs.map (·.1)).zip us) = (kfs.map (·.1)).zip us := by
            have := merge_nodup (kfs.map (·.1)) us [] [] rfl (by simpa using hk.2)
            simpa using this
          rw [em]
          have avq : q ∈ (Λ.add q).av := List.mem_cons_self
          have hnq : ∀ c z, H' q ≠ some (LamX.CodeO c z) := fun c z e => by rw [hd] at e; unfold LamX.CodeO at e; cases e
          refine p ι' _ (.ref q) ?_ (m'.out avq nq hd (by intro ps z; cases z) (by intro c z e; unfold LamX.CodeO at e; cases e) (by intro ps z; cases z)).sub ?_
          · have x2 := x0.trans x'
            refine ⟨x2.pre, fun b o hb nt ni => ?_, fun b n => x2.nt b ?_⟩
            · rw [upd_ne (ne_of_none hb hq)]
              exact x2.keep b o hb nt ni
            · intro o eo
              by_cases z : b = q
              · rw [z] at n
                exact (n.no upd_same (by intro ps z; cases z)).elim
              · exact n o (by rw [upd_ne z]; exact eo)
          · refine ⟨q, (kfs.map (·.1)).zip us, rfl, .inl upd_same, ⟨nq, fr.2⟩, zip_fst hl', ?_⟩
            rw [zip_snd hl']
            exact Reps.sub ds (Reps.out avq hnq ds rs)
    · cases e
/-! a look-up -/
theorem val_rd {ι : List Addr} {H : Hp} {j : Key} {d : D} : ∀ {ks : List Key} {xs : List D} {kvs : List (Key × V)}, kvs.map (·.1) = ks → Reps g.K Λ ι H xs (kvs.map (·.2)) → valD ks xs j = some d → ∃ v, valV kvs j = some v ∧ Rep g.K Λ ι H d v
  | [], _, _, _, _, e => by cases ‹List D› <;> cases e
  | k :: ks, [], _, _, _, e => by cases e
  | k :: ks, x :: xs, [], h, _, e => by cases h
  | k :: ks, x :: xs, kv :: kvs, h, hr, e => by
    rw [List.map_cons, List.cons.injEq] at h
    obtain ⟨v, r, h1, h2, h3⟩ := hr
    rw [List.map_cons, List.cons.injEq] at h1
    unfold valD at e
    split at e
    · rename_i q
      cases e
      exact ⟨kv.2, valV_pos (h.1.trans q), by rw [h1.1]; exact h2⟩
    · rename_i q
      obtain ⟨u, y1, y2⟩ := val_rd (ks := ks) (xs := xs) (kvs := kvs) h.2 (by rw [h1.2]; exact h3) e
      exact ⟨u, by rw [valV_neg (by rw [h.1]; exact q)]; exact y1, y2⟩
theorem keyD_rep {ι : List Addr} {H : Hp} {d : D} {v : V} {j : Key} (r : Rep g.K Λ ι H d v) (h : keyD d = some j) : v = kV j := by
  cases d <;> first | (cases h; cases r; rfl) | (cases h; done)
theorem de_get (ha : DE g k Λ X W a fa) (hb : DE g k Λ X W b fb) (hs : NoSl b := by intro _ _; rfl) : DE g k Λ X W (.Subscript a b pos) (bBin dGet fa fb) := fun ok tk =>
  PE.imp (pe_dget (by have := ok.room.units; omega) (ha ok tk) (hb ok tk) hs) fun σ H Q ⟨ι, ρ, μ, r, l, m, e, p⟩ => by
    refine go_E (X1 := True) l m e p.px fun d μ1 ι1 H1 v e1 e2 x1 m1 l1 r1 => ?_
    refine go_E (X1 := True) l1 m1 e2 (p.ext x1).px fun d2 μ2 ι2 H2 v2 _ e3 x2 m2 l2 r2 => ?_
    obtain ⟨z, hz, rfl⟩ := rt_some e3
    have rd := r1.ext x2
    unfold dGet at hz
    split at hz
    · rename_i j hj
      have hv := keyD_rep r2 hj
      split at hz
      · obtain ⟨ad, kvs, rfl, h2, h3, h4, h5⟩ := rd
        obtain ⟨w, y1, y2⟩ := val_rd h4 h5 hz
        exact ⟨ad, w, rfl, .inl ⟨kvs, j, h2, hv, y1.symm⟩, (p.ext x1).ext x2 ι2 H2 w (.refl _ _) m2 y2⟩
      · rename_i n
        split at hz
        · rename_i ks xs hn
          obtain ⟨ad, rfl, had⟩ := rd
          obtain ⟨b', h3, kvs, h4, h5, h6⟩ := m2.ob n _ hn
          rw [had] at h3
          cases h3
          obtain ⟨w, y1, y2⟩ := val_rd h5 (Reps.of_pure xs h6) hz
          exact ⟨ad, w, rfl, .inl ⟨kvs, j, .inl h4, hv, y1.symm⟩, (p.ext x1).ext x2 ι2 H2 w (.refl _ _) m2 y2⟩
        · cases hz
      · cases hz
    · cases hz
end
end Mi

set_option Elab.async false
set_option linter.all false
set_option maxRecDepth 100000
set_option maxHeartbeats 4000000
namespace Mi
open PySem PySem.Spec PyProof.Rows L2 LamX
/-! ### generator expressions whose element is a plain test of the walked item -/
def FV : D → Value → Prop
  | .int i, v => ∃ t, v = .int i t
  | .str x, v => ∃ t, v = .str x t
  | .bl b, v => v = .bool b
  | _, _ => False
def EltQ (prog : Program) (w : World) (scope : Scope) (x : Str) (elt : Expr) (f : D → Option D) : Prop :=
  ∀ (cenv : Env) (A' : Around) (E' : Value → Shared → Prop) (d r : D) (v : Value) (s₂ : Shared) (m₂ : Str → Option Value), cenv.scope = scope → FV d v → f d = some r → s₂.heap.Ns cenv.locals m₂ → m₂ x = some v →
    wpAny (model prog w) A' (eval elt cenv) (fun y s₃ => FV r y ∧ Keeps s₂ s₃) E' s₂
theorem keeps_trans {a b c : Shared} (h : Keeps a b) (k : Keeps b c) : Keeps a c := by
  obtain ⟨h1, t1, rfl, k1⟩ := h
  obtain ⟨h2, t2, rfl, k2⟩ := k
  exact ⟨h2, t2, rfl, fun x o e => k2 x o (k1 x o e)⟩
theorem keeps_ns {a b : Shared} {l : Addr} {m : Str → Option Value} (h : Keeps a b) (n : a.heap.Ns l m) : b.heap.Ns l m := by
  obtain ⟨h1, t1, rfl, k1⟩ := h
  exact n.keeps k1
def qCon (d : D) : D → Option D := fun _ => some d
def qVar : D → Option D := some
def qBin (o : Sto → D → D → Option D) (f1 f2 : D → Option D) : D → Option D := fun d => match f1 d, f2 d with
  | some a, some b => o [] a b
  | _, _ => none
def qChain (o1 o2 : Sto → D → D → Option D) (f1 f2 f3 : D → Option D) : D → Option D := fun d => match f1 d, f2 d with
  | some a, some b => match o1 [] a b with
    | some (.bl true) => match f3 d with
      | some c => o2 [] b c
      | none => none
    | some (.bl false) => some (.bl false)
    | _ => none
  | _, _ => none
def qNot (f : D → Option D) : D → Option D := fun d => match f d with
  | some (.bl b) => some (.bl (!b))
  | _ => none
def FOp (f : Value → Value → Sem Value) (o : Sto → D → D → Option D) : Prop := ∀ (prog : Program) (w : World) (A : Around) (E : Value → Shared → Prop) (d e r : D) (v u : Value) (s : Shared) (Q : Value → Shared → Prop), FV d v → FV e u → o [] d e = some r → (∀ y s', FV r y → Keeps s s' → Q y s') → wpAny (model prog w) A (f v u) Q E s
theorem fop_I {f : Value → Value → Sem Value} {c : Int → Int → Bool} (h : ∀ (prog : Program) (w : World) (A : Around) (E : Value → Shared → Prop) (a b : Int) (t u : Tok) (s : Shared) (Q : Value → Shared → Prop), Q (.bool (c a b)) s → wpAny (model prog w) A (f (.int a t) (.int b u)) Q E s) : FOp f (dI (fun _ _ => true) fun i j => .bl (c i j)) := by
  intro prog w A E d e r v u s Q h1 h2 h3 h4
  unfold dI at h3
  split at h3
  · simp at h3
    subst h3
    obtain ⟨t, rfl⟩ := h1
    obtain ⟨t', rfl⟩ := h2
    exact h _ _ _ _ _ _ _ _ _ _ (h4 _ _ rfl (GxR.keeps_refl _))
  · cases h3
theorem fop_le : FOp (compareOp .LtE) dLe := fop_I fun _ _ _ _ _ _ _ _ _ _ h => PySem.P.le_int h
theorem fop_lt : FOp (compareOp .Lt) dLt := fop_I fun _ _ _ _ _ _ _ _ _ _ h => PySem.P.lt_int h
theorem fop_ge : FOp (compareOp .GtE) dGe := fop_I fun _ _ _ _ _ _ _ _ _ _ h => PySem.P.ge_int h
theorem fop_gt : FOp (compareOp .Gt) dGt := fop_I fun _ _ _ _ _ _ _ _ _ _ h => PySem.P.gt_int h
theorem sign1 {s : Str} {c : Nat} (hc : s.cps.toList = [c]) : s = ⟨#[c]⟩ := by
  cases s with
  | mk cps =>
    have : cps = #[c] := by rw [← Array.toArray_toList (xs := cps), hc]
    rw [this]
def dNinT (μ : Sto) : D → D → Option D
  | .str s, .str z => dNin μ (.str s) (.str z)
  | _, _ => none
theorem fop_nin : FOp (compareOp .NotIn) dNinT := by
  intro prog w A E d e r v u s Q h1 h2 h3 h4
  unfold dNinT at h3
  split at h3
  · rename_i x z
    unfold dNin at h3
    cases hr : dInB [] (.str x) (.str z) with
    | none => rw [hr] at h3; cases h3
    | some rr =>
      rw [hr] at h3
      cases h3
      unfold dInB at hr
      dsimp only at hr
      split at hr
      · rename_i c hc
        cases hr
        obtain ⟨t, rfl⟩ := h1
        obtain ⟨t', rfl⟩ := h2
        rw [sign1 hc]
        refine PyProof.Rows.notIn_str (h4 _ _ ?_ (GxR.keeps_refl _))
        show Value.bool _ = Value.bool _
        rw [PySem.StrLaws.found_one]
      · cases hr
  · cases h3
section
variable {prog : Program} {w : World} {scope : Scope} {x : Str} {a b c : Expr} {f1 f2 f3 : D → Option D} {pos : Pos}
theorem eq_var (hk : scope.kind = .function := by rfl) (hl : scope.names.lookup x = some .local := by rfl) (hd : (x == ("__debug__" : Str)) = false := by decide) : EltQ prog w scope x (.Name x pos) qVar := by
  intro cenv A' E' d r v s₂ m₂ hs hv hf hn hm
  cases hf
  exact wpAny_Name (wpAny_loadName_local (by rw [hs]; exact hk) (show cenv.scope.names.lookup x = some .local by rw [hs]; exact hl) hn hm ⟨hv, GxR.keeps_refl _⟩) hd
theorem eq_str {z : Str} {j : Nat} : EltQ prog w scope x (.Constant (.str z) j pos) (qCon (.str z)) := by
  intro cenv A' E' d r v s₂ m₂ hs hv hf hn hm
  cases hf
  exact Calls.Constant_str ⟨⟨_, rfl⟩, GxR.keeps_tok _ _⟩
theorem eq_int {z : Int} {j : Nat} : EltQ prog w scope x (.Constant (.int z) j pos) (qCon (.int z)) := by
  intro cenv A' E' d r v s₂ m₂ hs hv hf hn hm
  cases hf
  exact wpAny_Constant_int ⟨⟨_, rfl⟩, GxR.keeps_tok _ _⟩
theorem eq_cmp {op : CmpOp} {o : Sto → D → D → Option D} (ho : FOp (compareOp op) o) (ha : EltQ prog w scope x a f1) (hb : EltQ prog w scope x b f2) (hm : behindInMarks op b = false := by with_unfolding_all rfl) : EltQ prog w scope x (.Compare a [op] [b] pos) (qBin o f1 f2) := by
  intro cenv A' E' d r v s₂ m₂ hs hv hf hn hmx
  unfold qBin at hf
  split at hf
  · rename_i y z h1 h2
    refine wpAny_Compare1 (wpAny_mono (ha cenv A' E' d y v s₂ m₂ hs hv h1 hn hmx) (fun u s3 ⟨q1, q2⟩ => wpAny_mono (hb cenv A' E' d z v s3 m₂ hs hv h2 (keeps_ns q2 hn) hmx) (fun u' s4 ⟨q3, q4⟩ => ?_) fun _ _ e => e) fun _ _ e => e) hm
    exact ho _ _ _ _ _ _ _ _ _ _ _ q1 q3 hf fun y s5 h5 k5 => ⟨h5, keeps_trans (keeps_trans q2 q4) k5⟩
  · cases hf
theorem eq_chain {op op' : CmpOp} {o1 o2 : Sto → D → D → Option D} (h1 : FOp (compareOp op) o1) (h2 : FOp (compareOp op') o2) (ha : EltQ prog w scope x a f1) (hb : EltQ prog w scope x b f2) (hc : EltQ prog w scope x c f3) (hm : lastMarks [op, op'] [b, c] = false := by with_unfolding_all rfl) :
    EltQ prog w scope x (.Compare a [op, op'] [b, c] pos) (qChain o1 o2 f1 f2 f3) := by
  intro cenv A' E' d r v s₂ m₂ hs hv hf hn hmx
  unfold qChain at hf
  split at hf
  · rename_i y z hy hz
    refine Compare_chain (wpAny_mono (ha cenv A' E' d y v s₂ m₂ hs hv hy hn hmx) (fun u s3 ⟨q1, q2⟩ => chain_link (wpAny_mono (hb cenv A' E' d z v s3 m₂ hs hv hz (keeps_ns q2 hn) hmx) (fun u' s4 ⟨q3, q4⟩ => ?_) fun _ _ e => e)) fun _ _ e => e) hm
    have k4 := keeps_trans q2 q4
    split at hf
    · rename_i ho
      refine h1 _ _ _ _ _ _ _ _ _ _ _ q1 q3 ho fun yy s5 h5 k5 => ?_
      cases (show yy = Value.bool true from h5)
      refine wpAny_truthy_bool ?_
      split at hf
      · rename_i cc hcc
        refine ite_tt (chain_last (wpAny_mono (hc cenv A' E' d cc v s5 m₂ hs hv hcc (keeps_ns (keeps_trans k4 k5) hn) hmx) (fun u6 s6 ⟨q6, k6⟩ => ?_) fun _ _ e => e))
        exact h2 _ _ _ _ _ _ _ _ _ _ _ q3 q6 hf fun y7 s7 h7 k7 => ⟨h7, keeps_trans (keeps_trans (keeps_trans k4 k5) k6) k7⟩
      · cases hf
    · rename_i ho
      refine h1 _ _ _ _ _ _ _ _ _ _ _ q1 q3 ho fun yy s5 h5 k5 => ?_
      cases (show yy = Value.bool false from h5)
      cases hf
      exact wpAny_truthy_bool (ite_ff ⟨rfl, keeps_trans k4 k5⟩)
    · cases hf
  · cases hf
theorem eq_not (ha : EltQ prog w scope x a f1) : EltQ prog w scope x (.UnaryOp .Not a pos) (qNot f1) := by
  intro cenv A' E' d r v s₂ m₂ hs hv hf hn hmx
  unfold qNot at hf
  split at hf
  · rename_i bb h1
    cases hf
    refine UnaryOp_ (wpAny_mono (ha cenv A' E' d _ v s₂ m₂ hs hv h1 hn hmx) (fun u s3 ⟨q1, q2⟩ => ?_) fun _ _ e => e)
    cases (show u = Value.bool bb from q1)
    exact not_of (wpAny_truthy_bool ⟨rfl, q2⟩)
  · cases hf
end
/-! the walked thing -/
def genSB (scope : Scope) (x : Str) : Bool := decide (scope.kind = .function) && !scope.isCoroutine && scope.names.all (fun y => !decide (y.2 = .cell)) && decide (scope.names.lookup (".0" : Str) = some NameKind.local) && decide (scope.names.lookup x = some .local) && noFree scope
theorem genS_by {env : Env} {scope : Scope} {x : Str} (h : genSB scope x = true) : GxR.GenS env scope x := by
  unfold genSB at h
  simp only [Bool.and_eq_true, decide_eq_true_eq, Bool.not_eq_true'] at h
  obtain ⟨⟨⟨⟨⟨h1, h2⟩, h3⟩, h4⟩, h5⟩, h6⟩ := h
  refine ⟨h1, h2, fun y hy e => ?_, h4, h5, fun y hy e => ?_⟩
  · have := List.all_eq_true.mp h3 y hy
    rw [e] at this
    simp at this
  · have := List.all_eq_true.mp h6 y hy
    rw [e] at this
    simp at this
/-- an iterator over ds, the object o just laid; P: what may change meanwhile -/
def Wk (X : Cx) (P : Addr) (s1 : Shared) (ds : List D) (o : Obj) : Prop :=
  ∃ (fp : List Addr) (Pf : Nat → Value → Prop) (St : Nat → Heap → Prop), (∀ A' : Around, A'.handled = none → Walks X.prog X.w A' s1.heap.objs.size fp [s1.heap.objs.size] ds.length Pf St) ∧ (∀ b ∈ fp, b ≤ s1.heap.objs.size) ∧
    (∀ h3 : Heap, (∀ b u, b ≠ P → (s1.heap.push o).get? b = some u → h3.get? b = some u) → St 0 h3) ∧ ∀ i v, Pf i v → ∃ d, ds[i]? = some d ∧ FV d v
def GenR (T : List (Addr × Str)) (X : Cx) (pins : List (Addr × Obj)) (σ : L2.St) (H1 : Hp) (ds : List D) (fe : D → Option D) (g : Addr) (s5 : Shared) : Prop :=
  ∃ (fp wr : List Addr) (G : Array GenState → Array GenState → Prop) (F : Nat → Value → Prop) (St : Nat → Shared → Prop),
    WalksS X.prog X.w X.A.in1 g fp wr G ds.length F St ∧ St 0 s5 ∧ (∀ j v, F j v → ∃ d r, ds[j]? = some d ∧ fe d = some r ∧ FV r v) ∧
    ∀ s', Moved wr G s5 s' → ∃ H2, ExtN H1 H2 ∧ Tabs T H2 ∧ Inv X pins σ H2 s'
section
variable {X : Cx} {pins : List (Addr × Obj)} {σ : L2.St} {H H1 : Hp} {s s1 : Shared}
theorem inv_gens {g' : Array GenState} {d' : Drawn} (I : Inv X pins σ H s) (hg : AllBare g') : Inv X pins σ H { s with gens := g', drawn := d' } :=
  I.step (g' := g') (d' := d') (t' := s.toks) (ch := []) (fun b hb => absurd hb (by simp)) (fun b o _ _ _ e n => e) (fun b o _ _ _ e n => ⟨o.slots, e⟩) (fun b o _ e n => n) (fun b o _ e => ⟨o, e⟩) (fun b xs e => e) (fun b o u e => e) (fun b qs e => ⟨#[], by simpa using e⟩) (fun m hn => hn) I.hok hg
theorem gen_pure {T : List (Addr × Str)} {c P : Addr} {elt iter : Expr} {x : Str} {px gpos : Pos} {scope : Scope} {fe : D → Option D} {te : TE} {k : Nat} {Q' : Value → Shared → Prop} {R : List D → Hp → Prop}
    (hr : Room k X.A) (TB : TabB X.base X.mg c P) (hcode : X.env.code = .ref c) (hmT : (P, X.env.qual ++ "<genexpr>") ∈ T) (hu : ∀ p ∈ T, p.1 = P → p.2 = X.env.qual ++ "<genexpr>") (S : GxR.GenS X.env scope x) (hi : PE X iter te) (hel : EltQ X.prog X.w scope x elt fe)
    (hs : ∀ v, genFold iter X.env v = pure v) (I : Inv X pins σ H s)
    (h : te σ H fun v H1 => ∃ ds : List D, Tabs T H1 ∧ R ds H1 ∧ (∀ d ∈ ds, ∃ r, fe d = some r) ∧ ∀ (xv : Value) (s1 : Shared) (Q : Value → Shared → Prop), Inv X pins σ H1 s1 → RelV v xv → (∀ o, Wk X P s1 ds o → Q (.ref s1.heap.objs.size) { s1 with heap := s1.heap.push o }) → wpAny (model X.prog X.w) X.A (pyIter xv) Q X.xe s1)
    (hQ : ∀ ds H1 g s5, R ds H1 → GenR T X pins σ H1 ds fe g s5 → Q' (.ref g) s5) :
    wpAny (model X.prog X.w) X.A (eval (.GeneratorExp elt [⟨.Name x px, iter, [], 0⟩] scope gpos) X.env) Q' X.xe s := by
  refine wpAny_GeneratorExp_walksQ hr.hd S.co (closure_ok S.free) S.cell S.dot S.loc S.kind (by have := hr.dp; omega) ?_ hs
  refine thn (hi.run pins s σ H _ I h) fun xv s1 ⟨v, H1, I1, r1, q1⟩ => ?_
  obtain ⟨ds, hT, hR, hfe, hit⟩ := q1
  refine hit xv s1 _ I1 r1 fun o hW => ?_
  obtain ⟨ps, hP, ht, hamong⟩ := hT _ hmT
  obtain ⟨fp, Pf, St, W, hfp, hst, hPf⟩ := hW
  have hPs : s1.heap.get? P = some { cls := .none, data := .fields ps } := I1.hok P _ hP
  have hPlt : P < s1.heap.objs.size := Heap.lt_size hPs
  have hP2 : (s1.heap.push o).get? P = some { cls := .none, data := .fields ps } := Heap.get?_push_of_some _ hPs
  have cd : PySem.W.CodeHd (s1.heap.push o) c P := TB.code.keeps fun b u e => Heap.get?_push_of_some _ (I1.bk b u e)
  have lim2 : (s1.heap.push o).NoLimit := I1.nolimit.push o
  have cont : ∀ (code : Value) (h3 : Heap) (tk : Nat), Heap.ExtBut P (s1.heap.push o) h3 → (s1.heap.push o).objs.size ≤ h3.objs.size →
      (∀ (s' : Shared), s'.os = s1.os → AllBare s'.gens → (∀ b u, b ≠ s1.heap.objs.size → b < h3.objs.size → h3.get? b = some u → s'.heap.get? b = some u) → ∃ H2, ExtN H1 H2 ∧ Tabs T H2 ∧ Inv X pins σ H2 s') →
      wpAny (model X.prog X.w) X.A (builtinsFor X.env.globals X.env.builtins) (fun bi s₄ =>
        ∃ Ia fp wr n₀ Pf St₀ pz F, Value.ref s1.heap.objs.size = .ref Ia ∧ (∀ A' : Around, A'.handled = none → Walks X.prog X.w A' Ia fp wr n₀ Pf St₀) ∧ St₀ 0 s₄.heap ∧ (∀ b ∈ fp, b < s₄.heap.objs.size) ∧ s₄.heap.NoLimit ∧ cStatics ∉ wr ∧
          (∀ href : Heap, (∀ b o, s₄.heap.get? b = some o → href.get? b = some o) →
            QuietGen X.prog X.w (genEnv scope (cloFrom X.env.cells scope.names []) s₄.heap.objs.size code bi X.env) x [] elt (List.range s₄.heap.objs.size) wr Pf pz F href) ∧
          (∀ a h₅ tk gs, gs.bare = true → s₄.heap.objs.size < a → h₅.objs.size = a + 1 → (∀ b o, s₄.heap.get? b = some o → h₅.get? b = some o) →
            WalksS X.prog X.w X.A.in4 a (a :: s₄.heap.objs.size :: List.range s₄.heap.objs.size) (s₄.heap.objs.size :: wr) (GenOnlyQ s₄.gens.size) (passing pz n₀ 0).length
              (fun j y => ∃ i, (passing pz n₀ 0)[j]? = some i ∧ F i y) (GenAt X.prog X.w X.A.in4 a s₄.gens.size s₄.heap.objs.size (List.range s₄.heap.objs.size) wr pz n₀ F) →
            GenAt X.prog X.w X.A.in4 a s₄.gens.size s₄.heap.objs.size (List.range s₄.heap.objs.size) wr pz n₀ F 0 { s₄ with gens := s₄.gens.push gs, toks := tk, heap := h₅ } →
            Q' (.ref a) { s₄ with gens := s₄.gens.push gs, toks := tk, heap := h₅ })) X.xe { s1 with heap := h3, toks := tk } := by
    intro code h3 tk hx hsz hfin
    obtain ⟨bm, ob, e1, e2, e3, e4, e5, e6, e7, e8⟩ := TB.bm
    have hcP : cStatics ≠ P := fun e => by
      obtain ⟨_, hns, _⟩ := I1.nolimit
      obtain ⟨o', es, ep, ho, hd, _⟩ := hns
      rw [e, hPs] at ho
      cases ho
      cases hd
    have hcl : cStatics < s1.heap.objs.size := let ⟨_, hns, _⟩ := I1.nolimit; hns.lt
    have sz2 : (s1.heap.push o).objs.size = s1.heap.objs.size + 1 := Heap.size_push ..
    have keep3 : ∀ b u, b ≠ P → s1.heap.get? b = some u → h3.get? b = some u := fun b u hb e => hx b u hb (Heap.get?_push_of_some _ e)
    refine wpAny_builtinsFor (m := X.mg) (by rw [I1.ok.glob]; exact ((I1.mod.glob.keeps I1.bk).push o).extBut hx TB.gP) e1 e2 (keep3 _ _ e4 (I1.bk _ _ e5)) e6 e7 e8 ?_
    refine ⟨s1.heap.objs.size, fp, [s1.heap.objs.size], ds.length, Pf, St, (fun _ => true), (fun i y => ∃ d r, ds[i]? = some d ∧ fe d = some r ∧ FV r y), rfl, W, ?_, ?_, lim2.extBut hx hcP, ?_, ?_, ?_⟩
    · exact hst h3 fun b u hb e => hx b u hb e
    · intro b hb
      have h8 : s1.heap.objs.size < h3.objs.size := by omega
      exact Nat.lt_of_le_of_lt (hfp b hb) h8
    · intro z
      rcases List.mem_cons.mp z with z | z
      · exact Nat.ne_of_lt hcl z
      · cases z
    · intro href hhref
      refine ⟨fun A' E' i v s₂ m₂ hA hPv hn hm hk => ?_, fun A' E' i v s₂ m₂ hA hPv hp hn hm hk => ?_⟩
      · simp only [List.forIn_nil]
        exact wpAny_pure ⟨rfl, GxR.keeps_refl _⟩
      · obtain ⟨d, hd, hv⟩ := hPf i v hPv
        obtain ⟨r, hr⟩ := hfe d (List.mem_of_getElem? hd)
        exact wpAny_mono (hel _ A' E' d r v s₂ m₂ rfl hv hr hn hm) (fun y s3 q => ⟨⟨d, r, hd, hr, q.1⟩, q.2⟩) fun _ _ e => e
    · intro g h5 tk5 gs hgb hag hsz5 hk5 W5 hat
      simp only [GxR.passing_true, List.length_range] at W5
      refine hQ ds H1 g _ hR ⟨_, _, _, _, _, W5.in4_1, hat, ?_, fun s' hm => ?_⟩
      · intro j v hv
        obtain ⟨i, hij, d, r, hd, hr, e⟩ := hv
        obtain ⟨hj, ej⟩ := List.getElem?_eq_some_iff.mp hij
        rw [List.getElem_range] at ej
        subst ej
        exact ⟨d, r, hd, hr, e⟩
      · refine hfin s' hm.os (AllBare.movedS (I1.bare.push hgb) hm) fun b u hb hlt e => ?_
        refine hm.heap b u ?_ (hk5 b u e)
        intro z
        rcases List.mem_cons.mp z with z | z
        · rw [z] at hlt
          exact Nat.lt_irrefl _ hlt
        · rcases List.mem_cons.mp z with z | z
          · exact hb z
          · cases z
  refine ⟨lim2, ?_⟩
  have sz2 : (s1.heap.push o).objs.size = s1.heap.objs.size + 1 := Heap.size_push ..
  cases hf : codeAmong gpos ps.toList with
  | none =>
    refine wpAny_genexprCodeX hcode (cd.code hP2 ht) (cd.tab hP2) hf fun c' h' tk hx hge hlt hco' hrec htab' _ => ?_
    obtain ⟨o1, vs, f1, tf, fl, tg, inF, tx, tt, op, _, _, _, _, _, _, _, _, _, htr, _⟩ := hco'
    refine cont _ h' tk hx (Nat.le_trans hge (Nat.le_of_lt hlt)) fun s' hos hbare hk => ?_
    obtain ⟨c2, oc, vs2, t2, e2, hoc, hd, hv⟩ := hrec
    cases e2
    have hge' : s1.heap.objs.size + 1 ≤ c' := by rw [← sz2]; exact hge
    have hge0 : s1.heap.objs.size ≤ c' := Nat.le_of_succ_le hge'
    have hgen : c' ≠ s1.heap.objs.size := Nat.ne_of_gt hge'
    have nC : H1 c' = none := I1.hok.fresh hge0
    have hlt' : ∀ b u, s1.heap.get? b = some u → b < h'.objs.size ∧ b ≠ s1.heap.objs.size := fun b u e => by
      have := Heap.lt_size e
      constructor
      · exact Nat.lt_trans (Nat.lt_of_lt_of_le this hge0) hlt
      · exact Nat.ne_of_lt (Heap.lt_size e)
    have J := inv_table (t' := s'.toks) (more := #[rawInt gpos.line, rawInt gpos.col, .ref c']) (h' := s'.heap) (q := X.env.qual ++ "<genexpr>") I1 hP
      (fun b u hb e => hk b u (hlt' b u e).2 (hlt' b u e).1 (hx b u hb (Heap.get?_push_of_some _ e)))
      (hk P _ (hlt' P _ hPs).2 (hlt' P _ hPs).1 htab'.2) hge0 ⟨oc, vs2, t2, hk c' _ hgen hlt hoc, hd, hv⟩
    have J2 := inv_gens (g' := s'.gens) (d' := s'.drawn) J hbare
    have es : ({ ({ s1 with heap := s'.heap, toks := s'.toks } : Shared) with gens := s'.gens, drawn := s'.drawn } : Shared) = s' := by
      cases s'
      cases hos
      rfl
    rw [es] at J2
    generalize hH1 : upd (upd H1 P (.tbl (ps ++ #[rawInt gpos.line, rawInt gpos.col, .ref c']))) c' (CodeO c' (X.env.qual ++ "<genexpr>")) = H2 at J2
    have hE : ExtN H1 H2 := fun b o e n => by
      rw [← hH1, upd_ne (ne_of_none e nC), upd_ne (fun z => n ps (Option.some.inj (e.symm.trans (by rw [z]; exact hP))))]
      exact e
    have eL : (ps ++ #[rawInt gpos.line, rawInt gpos.col, .ref c']).toList = ps.toList ++ [rawInt gpos.line, rawInt gpos.col, .ref c'] := by simp
    have hc1 : H2 c' = some (CodeO c' (X.env.qual ++ "<genexpr>")) := by rw [← hH1, upd_same]
    refine ⟨H2, hE, fun p hp => ?_, J2⟩
    by_cases hb : p.1 = P
    · rw [hu p hp hb, hb]
      refine ⟨_, by rw [← hH1, upd_ne (ne_of_none hP nC), upd_same], by rw [eL]; exact PySem.TriplesOk_snoc _ _ _ _ ht, fun p' cv hcv => ?_⟩
      rw [eL] at hcv
      rcases among_app _ ht hcv with z | z
      · obtain ⟨c0, e1, e2⟩ := hamong p' cv z
        exact ⟨c0, e1, hE _ _ e2 codeO_ne⟩
      · exact ⟨c', z, hc1⟩
    · obtain ⟨ps', a1, a2, a3⟩ := hT p hp
      refine ⟨ps', by rw [← hH1, upd_ne (ne_of_none a1 nC), upd_ne hb]; exact a1, a2, fun p' cv hcv => ?_⟩
      obtain ⟨c0, e1, e2⟩ := a3 p' cv hcv
      exact ⟨c0, e1, hE _ _ e2 codeO_ne⟩
  | some cv =>
    refine wpAny_genexprCode_hit hcode (cd.code hP2 ht) hf ?_
    refine cont cv (s1.heap.push o) s1.toks (Heap.ExtBut.refl _ _) (Nat.le_refl _) fun s' hos hbare hk => ?_
    have J := I1.kept (h' := s'.heap) (t' := s'.toks) fun b u e => hk b u (Nat.ne_of_lt (Heap.lt_size e)) (by rw [sz2]; exact Nat.lt_succ_of_lt (Heap.lt_size e)) (Heap.get?_push_of_some _ e)
    have J2 := inv_gens (g' := s'.gens) (d' := s'.drawn) J hbare
    have es : ({ ({ s1 with heap := s'.heap, toks := s'.toks } : Shared) with gens := s'.gens, drawn := s'.drawn } : Shared) = s' := by
      cases s'
      cases hos
      rfl
    rw [es] at J2
    exact ⟨H1, ExtN.refl _, hT, J2⟩
end
end Mi

set_option Elab.async false
set_option linter.all false
set_option maxRecDepth 100000
set_option maxHeartbeats 4000000
namespace Mi
open PySem PySem.Spec PyProof.Rows L2 LamX
def fvD : D → Bool
  | .int _ => true | .str _ => true | .bl _ => true | _ => false
def signsD (z : Str) : List D := z.cps.toList.map fun c => .str ⟨#[c]⟩
/-- the items of a text, a list, a tuple: flat ones -/
def gnItems (μ : Sto) : D → Option (List D)
  | .str z => some (signsD z)
  | d => match sqD μ d with
    | some xs => if xs.all fvD then some xs else none
    | none => none
def blsD (fe : D → Option D) : List D → Option (List Bool)
  | [] => some []
  | d :: ds => match fe d with
    | some (.bl b) => match blsD fe ds with
      | some bs => some (b :: bs)
      | none => none
    | _ => none
def bAnyG (ff : Cb D) (fe : D → Option D) : Cb D := fun ρ μ => ob (ff ρ μ) fun d μ1 => match gnItems μ1 d with
  | some ds => match blsD fe ds with
    | some bs => some (.ok (.bl (bs.any id)) μ1)
    | none => none
  | none => none
def bAllG (ff : Cb D) (fe : D → Option D) : Cb D := fun ρ μ => ob (ff ρ μ) fun d μ1 => match gnItems μ1 d with
  | some ds => match blsD fe ds with
    | some bs => some (.ok (.bl (bs.all id)) μ1)
    | none => none
  | none => none
theorem bls_get {fe : D → Option D} : ∀ {ds : List D} {bs : List Bool}, blsD fe ds = some bs → ds.length = bs.length ∧ ∀ (i : Nat) (d : D), ds[i]? = some d → ∃ b, fe d = some (.bl b) ∧ bs[i]? = some b
  | [], bs, h => by cases h; exact ⟨rfl, fun i d e => by simp at e⟩
  | d :: ds, bs, h => by
    unfold blsD at h
    split at h
    · rename_i b hb
      split at h
      · rename_i bs' hbs
        cases h
        obtain ⟨h1, h2⟩ := bls_get hbs
        refine ⟨by simp [h1], fun i d' e => ?_⟩
        cases i with
        | zero => simp at e; subst e; exact ⟨b, hb, rfl⟩
        | succ i => simpa using h2 i d' (by simpa using e)
      · cases h
    · cases h
theorem any_range (bs : List Bool) : (List.range bs.length).any (fun j => bs.getD j false) = bs.any id := by
  rw [Bool.eq_iff_iff, List.any_eq_true, List.any_eq_true]
  constructor
  · rintro ⟨j, hj, h⟩
    have hj' := List.mem_range.mp hj
    rw [List.getD_eq_getElem?_getD, List.getElem?_eq_getElem hj'] at h
    exact ⟨bs[j], List.getElem_mem hj', h⟩
  · rintro ⟨b, hb, h⟩
    obtain ⟨j, hj, e⟩ := List.getElem_of_mem hb
    refine ⟨j, List.mem_range.mpr hj, ?_⟩
    rw [List.getD_eq_getElem?_getD, List.getElem?_eq_getElem hj, e]
    exact h
theorem all_range (bs : List Bool) : (List.range bs.length).all (fun j => bs.getD j false) = bs.all id := by
  rw [Bool.eq_iff_iff, List.all_eq_true, List.all_eq_true]
  constructor
  · intro h b hb
    obtain ⟨j, hj, e⟩ := List.getElem_of_mem hb
    have := h j (List.mem_range.mpr hj)
    rw [List.getD_eq_getElem?_getD, List.getElem?_eq_getElem hj, e] at this
    exact this
  · intro h j hj
    have hj' := List.mem_range.mp hj
    rw [List.getD_eq_getElem?_getD, List.getElem?_eq_getElem hj']
    exact h _ (List.getElem_mem hj')
section
variable {g : Gb} {k : Nat} {Λ : Lr} {X : Cx} {W : WX} {pins : List (Addr × Obj)} {σ : L2.St} {H H1 : Hp} {s s1 : Shared}
theorem fv_rep {ι : List Addr} {d : D} {v : V} {u : Value} (r : Rep g.K Λ ι H d v) (hf : fvD d = true) (q : RelV v u) : FV d u := by
  cases d <;> first | (simp [fvD] at hf; done) | (cases r; exact q)
theorem fv_at {ι : List Addr} : ∀ {ds : List D} {vs : List V} {us : List Value}, Reps g.K Λ ι H ds vs → Vals vs us → ds.all fvD = true → us.length = ds.length ∧ ∀ (i : Nat) (u : Value), us[i]? = some u → ∃ d, ds[i]? = some d ∧ FV d u
  | [], _, _, h, r, _ => by cases (show _ = [] from h); cases r; exact ⟨rfl, fun i u e => by simp at e⟩
  | d :: ds, _, _, ⟨v, vs, h1, h2, h3⟩, r, hf => by
    subst h1
    cases r with
    | cons rv rr =>
      simp only [List.all_cons, Bool.and_eq_true] at hf
      obtain ⟨q1, q2⟩ := fv_at h3 rr hf.2
      refine ⟨by simp [q1], fun i u e => ?_⟩
      cases i with
      | zero => simp at e; subst e; exact ⟨d, rfl, fv_rep h2 hf.1 rv⟩
      | succ i => simpa using q2 i u (by simpa using e)
theorem it_lst {P : Addr} {a : Addr} {vs : List V} {ds : List D} {ι : List Addr} (I : Inv X pins σ H1 s1) (hP : ∃ ps, H1 P = some (.tbl ps)) (sq : SqL X.K H1 a vs) (hr : Reps g.K Λ ι H1 ds vs) (hf : ds.all fvD = true) {Q : Value → Shared → Prop}
    (hQ : ∀ o, Wk X P s1 ds o → Q (.ref s1.heap.objs.size) { s1 with heap := s1.heap.push o }) : wpAny (model X.prog X.w) X.A (pyIter (.ref a)) Q X.xe s1 := by
  obtain ⟨its, rv, hl, hz⟩ := I.list sq
  have hIL := hl.isList
  obtain ⟨hlen, hat⟩ := fv_at hr rv hf
  refine wpAny_pyIter_list hIL (hQ _ ?_)
  obtain ⟨ps, hP⟩ := hP
  have hPs : s1.heap.get? P = some { cls := .none, data := .fields ps } := I.hok P _ hP
  have haP : a ≠ P := fun z => by
    obtain ⟨_, e, hc1, _, hd1⟩ := _root_.id hIL
    rw [z, hPs] at e
    cases e
    cases hd1
  have halt : a < s1.heap.objs.size := by
    obtain ⟨_, e, _⟩ := _root_.id hIL
    exact Heap.lt_size e
  have hn : its.toArray.size = ds.length := by rw [List.size_toArray, hlen]
  refine ⟨[s1.heap.objs.size, a], (fun i v => its.toArray[i]? = some v), (fun i h => h.IsListIter s1.heap.objs.size a i ∧ h.IsList a its.toArray), fun A' hA => by rw [← hn]; exact Walks.list hA _ _ (Nat.ne_of_lt halt) _, fun b hb => ?_, fun h3 hk => ⟨?_, ?_⟩, fun i v hv => hat i v (by simpa using hv)⟩
  · rcases List.mem_cons.mp hb with z | z
    · exact Nat.le_of_eq z
    · rw [show b = a by simpa using z]; exact Nat.le_of_lt halt
  · have : (s1.heap.push { cls := .type "list_iterator", data := .fields #[.ref a, .int 0 0] }).IsListIter s1.heap.objs.size a 0 := ⟨_, Heap.get?_push_size _ rfl, rfl, rfl⟩
    exact this.at fun u e => hk _ u (fun z => by rw [← z] at hPs; exact Nat.lt_irrefl _ (Heap.lt_size hPs)) e
  · obtain ⟨ob, e, r⟩ := _root_.id hIL
    exact ⟨ob, hk _ _ haP (Heap.get?_push_of_some _ e), r⟩
theorem it_tup {P : Addr} {a : Addr} {vs : List V} {ds : List D} {ι : List Addr} (I : Inv X pins σ H1 s1) (hP : ∃ ps, H1 P = some (.tbl ps)) (sq : SqT X.K H1 a vs) (hr : Reps g.K Λ ι H1 ds vs) (hf : ds.all fvD = true) {Q : Value → Shared → Prop}
    (hQ : ∀ o, Wk X P s1 ds o → Q (.ref s1.heap.objs.size) { s1 with heap := s1.heap.push o }) : wpAny (model X.prog X.w) X.A (pyIter (.ref a)) Q X.xe s1 := by
  obtain ⟨its, rv, hl, hz⟩ := I.tuple sq
  have hIL : s1.heap.IsTuple a its.toArray := hl
  obtain ⟨hlen, hat⟩ := fv_at hr rv hf
  refine wpAny_pyIter_tuple hIL (hQ _ ?_)
  obtain ⟨ps, hP⟩ := hP
  have hPs : s1.heap.get? P = some { cls := .none, data := .fields ps } := I.hok P _ hP
  have haP : a ≠ P := fun z => by
    obtain ⟨_, e, hc1, _⟩ := _root_.id hIL
    rw [z, hPs] at e
    cases e
    cases hc1
  have halt : a < s1.heap.objs.size := by
    obtain ⟨_, e, _⟩ := _root_.id hIL
    exact Heap.lt_size e
  have hn : its.toArray.size = ds.length := by rw [List.size_toArray, hlen]
  refine ⟨[s1.heap.objs.size, a], (fun i v => its.toArray[i]? = some v), (fun i h => h.IsTupleIter s1.heap.objs.size a i ∧ h.IsTuple a its.toArray), fun A' hA => by rw [← hn]; exact Walks.tuple hA _ _ (Nat.ne_of_lt halt) _, fun b hb => ?_, fun h3 hk => ⟨?_, ?_⟩, fun i v hv => hat i v (by simpa using hv)⟩
  · rcases List.mem_cons.mp hb with z | z
    · exact Nat.le_of_eq z
    · rw [show b = a by simpa using z]; exact Nat.le_of_lt halt
  · have : (s1.heap.push { cls := .type "tuple_iterator", data := .fields #[.ref a, .int 0 0] }).IsTupleIter s1.heap.objs.size a 0 := ⟨_, Heap.get?_push_size _ rfl, rfl, rfl⟩
    exact this.at fun u e => hk _ u (fun z => by rw [← z] at hPs; exact Nat.lt_irrefl _ (Heap.lt_size hPs)) e
  · obtain ⟨ob, e, r⟩ := _root_.id hIL
    exact ⟨ob, hk _ _ haP (Heap.get?_push_of_some _ e), r⟩
theorem it_str {P : Addr} {z : Str} {t : Tok} (I : Inv X pins σ H1 s1) (hP : ∃ ps, H1 P = some (.tbl ps)) {Q : Value → Shared → Prop}
    (hQ : ∀ o, Wk X P s1 (signsD z) o → Q (.ref s1.heap.objs.size) { s1 with heap := s1.heap.push o }) : wpAny (model X.prog X.w) X.A (pyIter (.str z t)) Q X.xe s1 := by
  refine wpAny_pyIter_str fun o St W hst => hQ o ?_
  obtain ⟨ps, hP⟩ := hP
  have hPs : s1.heap.get? P = some { cls := .none, data := .fields ps } := I.hok P _ hP
  have hn : (signsD z).length = z.cps.size := by unfold signsD; simp
  refine ⟨[s1.heap.objs.size], SignAt z, St, by rw [hn]; exact W, fun b hb => by rw [show b = s1.heap.objs.size by simpa using hb]; exact Nat.le_refl _, fun h3 hk => ?_, fun i v hv => ?_⟩
  · refine (W { X.A with handled := none } rfl).frame _ _ _ hst fun b hb u e => hk b u (fun q => ?_) e
    rw [show b = s1.heap.objs.size by simpa using hb] at q
    rw [← q] at hPs
    exact Nat.lt_irrefl _ (Heap.lt_size hPs)
  · obtain ⟨c, u, hc, rfl⟩ := hv
    refine ⟨.str ⟨#[c]⟩, ?_, u, rfl⟩
    unfold signsD
    rw [List.getElem?_map, Array.getElem?_toList, hc]
    rfl
variable {c P : Addr} {elt iter : Expr} {x : Str} {px p pos gpos : Pos} {scope : Scope} {fe : D → Option D} {ff : Cb D}
theorem gn_rd {te : TE} {T : List (Addr × Str)} {ι : List Addr} {μ : Sto} {ds : List D} {d : D} {v : V} {q : Str} (ok : XOk g k X) (m : MR g Λ ι H1 μ) (hT : (P, q) ∈ g.T) (r : Rep g.K Λ ι H1 d v) (hd : gnItems μ d = some ds) :
    ∀ (xv : Value) (s1 : Shared) (Q : Value → Shared → Prop), Inv X pins σ H1 s1 → RelV v xv → (∀ o, Wk X P s1 ds o → Q (.ref s1.heap.objs.size) { s1 with heap := s1.heap.push o }) → wpAny (model X.prog X.w) X.A (pyIter xv) Q X.xe s1 := by
  intro xv s1 Q I rx hQ
  have hP : ∃ ps, H1 P = some (.tbl ps) := by
    obtain ⟨ps, h, _⟩ := m.tabs _ hT
    exact ⟨ps, h⟩
  unfold gnItems at hd
  split at hd
  · cases hd
    cases r
    obtain ⟨t, rfl⟩ := (show ∃ t, xv = Value.str _ t from rx)
    exact it_str I hP hQ
  · split at hd
    · rename_i xs hx
      split at hd
      · rename_i hf
        cases hd
        obtain ⟨a, vs, rfl, h2, h3⟩ := sq_rd m r hx
        obtain rfl : xv = Value.ref a := rx
        rcases h2 with h2 | h2
        · exact it_lst I hP (by rw [ok.K]; exact h2) h3 hf hQ
        · exact it_tup I hP (by rw [ok.K]; exact h2) h3 hf hQ
      · cases hd
    · cases hd
theorem de_anyG (hm : g.mg "any" = none) (TB : TabB g.base g.mg c P) (hmT : (P, X.env.qual ++ "<genexpr>") ∈ g.T) (hu : ∀ p ∈ g.T, p.1 = P → p.2 = X.env.qual ++ "<genexpr>") (hS : genSB scope x = true) (hi : DE g k Λ X W iter ff) (hel : EltQ g.P g.w scope x elt fe)
    (hg : Gl X "any" := by rfl) (hcode : X.env.code = .ref c := by rfl) (hs : ∀ v, genFold iter X.env v = pure v := by intro _; rfl)
    (he : starEach [.GeneratorExp elt [⟨.Name x px, iter, [], 0⟩] scope gpos] X.env = (false, eval (.GeneratorExp elt [⟨.Name x px, iter, [], 0⟩] scope gpos) X.env) :: starEach [] X.env := by rfl) :
    DE g k Λ X W (.Call (.Name "any" p) [.GeneratorExp elt [⟨.Name x px, iter, [], 0⟩] scope gpos] [] pos) (bAnyG ff fe) := fun ok tk => by
  refine ⟨fun pins s σ H Q I ⟨ι, ρ, μ, r, l, m, e, pp⟩ => ?_⟩
  refine wpAny_Call_Name_kw (ld_blt I hg (by rw [ok.mg]; exact hm) boot_any ?_)
  refine PyProof.Rows.callWith_builtin1 ?_ he (by rfl)
  rw [he]
  show wpAny _ _ (spliced ((false, eval (.GeneratorExp elt [⟨.Name x px, iter, [], 0⟩] scope gpos) X.env) :: backTo pos (starEach [] X.env))) _ _ s
  have hel' : EltQ X.prog X.w scope x elt fe := by rw [ok.P, ok.w]; exact hel
  refine Calls.spliced_cons (gen_pure (T := g.T) (R := fun ds H1 => ∃ bs, blsD fe ds = some bs ∧ ∀ H2, ExtN H1 H2 → Tabs g.T H2 → Q (.bl (bs.any id)) H2) ok.room (by rw [ok.base, ok.mg]; exact TB) hcode hmT hu (genS_by hS) (hi ok tk) hel' hs I
    (go_E (X1 := True) l m e pp.px fun d μ1 ι1 H1 v e1 e2 x1 m1 l1 r1 => ?_) fun ds H1 g' s5 hR hG => ?_)
  · split at e2
    · rename_i ds hds
      split at e2
      · rename_i bs hbs
        cases e2
        refine ⟨ds, m1.tabs, ⟨bs, hbs, fun H2 eN T2 => pp ι1 H2 (.bl (bs.any id)) (x1.trans (ext_of_n eN)) (m1.ofN eN T2) rfl⟩, fun d hd => ?_, gn_rd (te := fun _ _ _ => True) (T := g.T) ok m1 hmT r1 hds⟩
        obtain ⟨i, hi, ei⟩ := List.getElem_of_mem hd
        obtain ⟨b, hb, _⟩ := (bls_get hbs).2 i d (by rw [List.getElem?_eq_getElem hi, ei])
        exact ⟨_, hb⟩
      · cases e2
    · cases e2
  · obtain ⟨bs, hbs, hq⟩ := hR
    obtain ⟨fp, wr, G, F, St, WW, hst, hF, hI⟩ := hG
    obtain ⟨hlen, hget⟩ := bls_get hbs
    refine Calls.spliced_nil ?_
    refine call_any_walkS (WW.self 0 _ _ _ hst ⟨g', fp, wr, G, _, F, St, (fun j => bs.getD j false), rfl, WW, hst, fun i v sj Qj Ej hv hQj => ?_, fun s' hmv => ?_⟩)
    · obtain ⟨d, rr, hd, hr, hfv⟩ := hF i v hv
      obtain ⟨b, hb, hbi⟩ := hget i d hd
      rw [hr] at hb
      cases hb
      cases (show v = Value.bool b from hfv)
      have hQ2 : Qj (bs.getD i false) sj := hQj
      rw [List.getD_eq_getElem?_getD, hbi] at hQ2
      exact wpAny_truthy_bool hQ2
    · obtain ⟨H2, eN, T2, J⟩ := hI s' hmv
      refine ⟨.bl _, H2, J, rfl, ?_⟩
      rw [hlen, any_range]
      exact hq H2 eN T2
end
end Mi

set_option Elab.async false
set_option linter.all false
set_option maxRecDepth 100000
set_option maxHeartbeats 4000000
namespace Mi
open PySem PySem.Spec PyProof.Rows L2 LamX
/-! ### from what the head tells to the walk's facts -/
abbrev gOf (P : Program) (w : World) (K : PySem.W.Frag) (mg : Str → Option Value) (base : Heap) (T : List (Addr × Str)) : Gb := ⟨P, w, K, mg, base, T, fun x => He.ga K x⟩
def dDef (x : Str) (st : Stmt) : He.DefD := ⟨(x, none), x, x, defArgs st, defBody st, defScope st, [], []⟩
section
variable {K : PySem.W.Frag} {x : Str} {st : Stmt} {h : Heap} {mg : Str → Option Value} {g : Gb}
theorem funC_of {f : Addr} {fd : FuncData} {q : Str} (F : FunD K x q (defArgs st) (defBody st) (defScope st) [] [] f fd) : ∃ c, FunC K x q st f c fd := by
  obtain ⟨oc, od, dV, kV, doc, pm, an, cdv, ct, osl, e, lk, hcd, hD, hK⟩ := F.ex
  obtain ⟨c, rfl⟩ := He.codeIn_ref hcd
  rcases hD with ⟨_, rfl⟩ | ⟨z, _⟩
  · exact ⟨c, ⟨⟨oc, od, kV, doc, pm, an, ct, osl, e, lk, hcd⟩, F.kp⟩⟩
  · exact absurd rfl z
theorem FunC.code {f c : Addr} {fd : FuncData} {q : Str} (F : FunC K x q st f c fd) (hf : f = He.ga K x) : c = He.codeOf K (x, none) := by
  obtain ⟨oc, od, kV, doc, pm, an, ct, osl, e, lk, hcd⟩ := F.ex
  subst hf
  exact (He.codeOf_eq (p := (x, none)) lk (by rw [e])).symm
/-- a module's constant -/
theorem gc_int {i : Int} (X : K.In h) (G : h.Ns mainGlobals mg) (hk : g.K = K) (hm : g.mg = mg) (c : (He.Fa.int x i).ok K = true) : GC g x (.int i) := by
  obtain ⟨t, e⟩ := He.int_ok X G c
  exact ⟨⟨.int i t, .int i, by rw [hm]; exact e, ⟨t, rfl⟩, fun _ _ _ => rfl⟩⟩
theorem gc_str {z : Str} (X : K.In h) (G : h.Ns mainGlobals mg) (hk : g.K = K) (hm : g.mg = mg) (c : (He.Fa.str x z).ok K = true) : GC g x (.str z) := by
  obtain ⟨t, e⟩ := He.str_ok X G c
  exact ⟨⟨.str z t, .str z, by rw [hm]; exact e, ⟨t, rfl⟩, fun _ _ _ => rfl⟩⟩
def dvD : D → Option He.Dv
  | .non => some .non
  | .bl b => some (.bl b)
  | .int i => some (.int i)
  | .str z => some (.str z)
  | _ => none
def dvsD : List D → Option (List He.Dv)
  | [] => some []
  | d :: ds => match dvD d, dvsD ds with
    | some v, some vs => some (v :: vs)
    | _, _ => none
theorem dvs_rep {Λ : Lr} {ι : List Addr} {H : Hp} : ∀ {ds : List D} {vs : List He.Dv}, dvsD ds = some vs → Reps K Λ ι H ds (vs.map (He.Dv.v K))
  | [], vs, e => by cases e; rfl
  | d :: ds, vs, e => by
    unfold dvsD at e
    split at e
    · rename_i v vs' h1 h2
      cases e
      refine ⟨_, _, rfl, ?_, dvs_rep h2⟩
      cases d <;> first | (cases h1; rfl) | (cases h1; done)
    · cases e
theorem gc_tup {ds : List D} {vs : List He.Dv} (X : K.In h) (G : h.Ns mainGlobals mg) (hk : g.K = K) (hm : g.mg = mg) (c : (He.Fa.glo x).ok K = true) (ct : He.tupB K x vs = true) (hd : dvsD ds = some vs) : GC g x (.tup ds) := by
  refine ⟨⟨.ref (He.ga K x), .ref (He.ga K x), by rw [hm]; exact He.glo_ok X G c, rfl, fun Λ ι H => ⟨_, vs.map (He.Dv.v K), rfl, ?_, by rw [hk]; exact dvs_rep hd⟩⟩⟩
  have sq := He.tupB_ok ct (fun _ => none)
  rcases sq with h | h
  · rcases h with h | ⟨_, h⟩ <;> cases h
  · rw [hk]; exact .inr h
theorem ec_of (X : K.In h) (G : h.Ns mainGlobals mg) (hk : g.K = K) (hm : g.mg = mg) (hc : g.cls x = He.ga K x) (c : (He.Fa.glo x).ok K = true) (ce : (He.Fa.exc x).ok K = true) : EC g x := by
  obtain ⟨h1, h2, h3, h4⟩ := He.exc_ok ce
  exact ⟨by rw [hc, hk]; exact h1, by rw [hm, hc]; exact He.glo_ok X G c, by rw [hc, hk]; exact h2, by rw [hc, hk]; exact h3, by rw [hc, hk]; exact h4⟩
end
/-! ### tables -/
abbrev TQ := List (He.Defn × Str)
def tabT (tq : TQ) (K : PySem.W.Frag) : List (Addr × Str) := tq.map fun p => ((He.cT K p.1).2, p.2)
/-- the defs' tables are different objects -/
def tabsNd (tq : TQ) (K : PySem.W.Frag) : Bool := decide ((tq.map fun p => (He.cT K p.1).2).Nodup)
theorem tab_uniq {K : PySem.W.Frag} : ∀ {tq : TQ} {p : He.Defn × Str}, (tq.map fun p => (He.cT K p.1).2).Nodup → p ∈ tq → ∀ z ∈ tabT tq K, z.1 = (He.cT K p.1).2 → z.2 = p.2
  | [], p, _, h, _, _, _ => by cases h
  | t :: tq, p, nd, hp, z, hz, e => by
    rw [List.map_cons, List.nodup_cons] at nd
    have hz : z ∈ ((He.cT K t.1).2, t.2) :: tabT tq K := hz
    rcases List.mem_cons.mp hz with hz | hz
    · rcases List.mem_cons.mp hp with hp | hp
      · rw [hz, hp]
      · refine (nd.1 ?_).elim
        rw [hz] at e
        have e : (He.cT K t.1).2 = (He.cT K p.1).2 := e
        rw [e]
        exact List.mem_map.mpr ⟨p, hp, rfl⟩
    · rcases List.mem_cons.mp hp with hp | hp
      · refine (nd.1 ?_).elim
        obtain ⟨q, hq, eq⟩ := List.mem_map.mp (show z ∈ tq.map fun p => ((He.cT K p.1).2, p.2) from hz)
        rw [hp] at e
        rw [← e, ← eq]
        exact List.mem_map.mpr ⟨q, hq, rfl⟩
      · exact tab_uniq nd.2 hp z hz e
/-! ### the end -/
theorem cx_no {P : Program} {w : World} {H : Hp} {s s' : Shared} {e : Value} : L2.CX P w [] H s (fun _ _ _ => False) e s' → False := fun ⟨_, _, _, _, _, _, _, _, _, _, _, _, z⟩ => z
theorem sp_law {g : Gb} {F : FnS} {H : Hp} {a : Addr} {ns : List Int} (hT : LamX.Tabs g.T H) (sq : SqL g.K H a (ns.map V.int)) (hF : ∃ μ, F [.scr ns] [] = some (.ok (.bl true) μ)) : spM g 1 F [.ref a] H (fun v _ => v = .bl true) fun _ _ _ => False := by
  obtain ⟨μ, hF⟩ := hF
  refine ⟨rfl, ⟨fun _ _ _ _ _ => False, []⟩, [], [.scr ns], [], _, ⟨rfl, .nil, fun n so q => by simp at q, hT, fun a ha => by cases ha⟩, ⟨_, [], rfl, ⟨a, rfl, ?_⟩, rfl⟩, hF, fun ι' H' v e m r => r⟩
  rcases sq with h | h
  · exact .inl ⟨h, by simp, by simp⟩
  · exact .inr h
theorem sp_base {P : Program} {w : World} {K : PySem.W.Frag} {mg : Str → Option Value} {b b' : Heap} {T : List (Addr × Str)} {n : Nat} {F : FnS} {vs : List V} {H : Hp} {Q : VK} {E : XK} (h : spM (gOf P w K mg b T) n F vs H Q E) : spM (gOf P w K mg b' T) n F vs H Q E := by
  have to : ∀ {b b' : Heap} {Λ : Lr} {ι : List Addr} {H : Hp} {μ : Sto}, MR (gOf P w K mg b T) Λ ι H μ → MR (gOf P w K mg b' T) Λ ι H μ := fun {b b' Λ ι H μ} m => ⟨m.len, m.nd, fun n so q => by
    obtain ⟨a, h1, h2⟩ := m.ob n so q
    refine ⟨a, h1, ?_⟩
    cases so <;> exact h2, m.tabs, m.avs⟩
  obtain ⟨hn, Λ, ι, ds, μ, r, m, rs, hF, hq⟩ := h
  refine ⟨hn, Λ, ι, ds, μ, r, to m, rs, hF, ?_⟩
  cases r with
  | ok d μ' => exact fun ι' H' v e m' rv => hq ι' H' v e (to m') rv
  | exc c μ' => exact fun ι' H' e m' => hq ι' H' e (to m')
theorem law_end {l : PySem.W.OpenLaw} {m n k : Nat} {q : Program} {loose : List Str} {XP : (Str → Option Value) → Heap → Prop} {d : DefRec} {fa : List He.Fa} {fn : List He.DefD} {tq : TQ} {ex : PySem.W.Frag → Bool} {st : Stmt} {F : FnS} {x : Str}
    (hn : l.most = some n) (hn2 : n ≤ sizeLine) (hdf : d.params.defaults = []) (hr : Room k callerA) (hname : d.name = ("law" : Str)) (hlaw : dDef "law" st ∈ fn) (hglo : He.Fa.glo "law" ∈ fa)
    (hb1 : ∀ (kV doc pm : Value) (an : Option Addr) (cdv ct : Value) (us : List Value), us.length = [x].length → bindArgs (PySem.W.fnOf "law" "law" (defArgs st) (defBody st) (defScope st) .none kV doc pm an cdv ct) ⟨us, []⟩ = pure ([x].zip us))
    (facts : ∀ (w : World) (K : PySem.W.Frag) (mg : Str → Option Value) (h base : Heap), He.SaysX fa fn [] (tq.map (·.1)) ex w h K → K.In base → base.Ns mainGlobals mg → (∀ p ∈ tq, TabB base mg (He.cT K p.1).1 (He.cT K p.1).2) → FnC (gOf l.prog w K mg base (tabT tq K)) k "law" st [x] F)
    (math : ∀ ns : List Int, ns.length ≤ n → ∃ μ, F [.scr ns] [] = some (.ok (.bl true) μ)) :
    PySem.W.WalkO q loose XP (He.hookX m fa fn [] (tq.map (·.1)) ex).says l.row.toRowW d [] (fun f vs => PySem.call f vs) := by
  refine LamX.walk_ofTsE (l := l) (n := n) (k := k) (x := x) (CX := fun w => L2.CX l.prog w) hn hn2 hdf hr ?_ fun _ _ _ _ _ z => cx_no z
  intro w mg fA h Y G hmg
  obtain ⟨K, KX, c⟩ := Y
  rw [hname] at hmg
  obtain ⟨fd, FD⟩ := He.SaysD.defs c.t.d hlaw
  obtain ⟨cc, FC⟩ := funC_of (st := st) (q := "law") FD
  have eg := He.glo_ok KX G (He.SaysD.facts c.t.d hglo)
  have ef : fA = He.ga K "law" := by
    have := hmg.symm.trans eg
    cases this
    rfl
  subst ef
  refine ⟨K, KX, fd, tq.map fun p => He.cT K p.1, spM (gOf l.prog w K mg h (tabT tq K)) 1 F, ?_, ?_, ?_, ?_, ?_, ?_⟩
  · intro p hp
    obtain ⟨t, ht, rfl⟩ := List.mem_map.mp hp
    exact c.empty t.1 (List.mem_map.mpr ⟨t, ht, rfl⟩)
  · intro p hp
    obtain ⟨t, ht, rfl⟩ := List.mem_map.mp hp
    exact c.out t.1 (List.mem_map.mpr ⟨t, ht, rfl⟩)
  · intro p hp
    obtain ⟨t, ht, rfl⟩ := List.mem_map.mp hp
    exact PySem.W.codeHd_of_K KX (c.hd t.1 (List.mem_map.mpr ⟨t, ht, rfl⟩))
  · intro s u
    exact FunD.bindsA (ps := [x]) FD hb1 s [u] rfl
  · intro H a ns hl _ hT sq
    refine sp_law (g := gOf l.prog w K mg h (tabT tq K)) (fun p hp => ?_) sq (math ns hl)
    obtain ⟨t, ht, rfl⟩ := List.mem_map.mp hp
    exact TabS.nil (hT _ (List.mem_map.mpr ⟨t, ht, rfl⟩))
  · intro base KB GB TB
    obtain ⟨f', c', fd', h1, h2, h3⟩ := facts w K mg h base c KB GB fun p hp => TB _ (List.mem_map.mpr ⟨p, hp, rfl⟩)
    have e1 : f' = He.ga K "law" := by
      have h2 : mg "law" = some (Value.ref f') := h2
      have := h2.symm.trans eg
      cases this
      rfl
    subst e1
    have e2 := FunC.inj h1 FC
    subst e2
    exact FnOk.imp h3 fun vs H Q E z => sp_base z
end Mi

set_option Elab.async false
set_option linter.all false
set_option maxRecDepth 100000
set_option maxHeartbeats 4000000
namespace Mi
open PySem L2
/-! ### the mirror, read off -/
/-- an int as a text -/
def toS (i : Int) : Str := Str.ofString (toString i)
def anyR (fe : D → Option D) (o : Option (List D)) (μ1 : Sto) : Option (Out D) := match o with
  | some ds => match blsD fe ds with
    | some bs => some (.ok (.bl (bs.any id)) μ1)
    | none => none
  | none => none
/-- by a truth value -/
def onB {α : Type} (d : Option D) (a b : Option α) : Option α := match d with
  | some (.bl true) => a
  | some (.bl false) => b
  | _ => none
@[simp] theorem onB_s {α : Type} {c : Bool} {a b : Option α} : onB (some (.bl c)) a b = if c = true then a else b := by cases c <;> rfl
section
variable {μ : Sto} {ρ : En} {i j : Int} {x y : D} {s t : Str}
@[simp] theorem bVar_s {n : Nat} : bVar n ρ μ = (match ρ[n]? with | some (some d) => some (.ok d μ) | _ => none) := rfl
@[simp] theorem bCon_s {d : D} : bCon d ρ μ = some (.ok d μ) := rfl
@[simp] theorem bBin_s {o : Sto → D → D → Option D} {fa fb : Cb D} : bBin o fa fb ρ μ = ob (fa ρ μ) fun x μ1 => ob (fb ρ μ1) fun y μ2 => rt (o μ2 x y) μ2 := rfl
@[simp] theorem bNeg_s {fa : Cb D} : bNeg fa ρ μ = ob (fa ρ μ) fun x μ1 => (match x with | .int i => some (.ok (.int (-i)) μ1) | _ => none) := rfl
@[simp] theorem bTst_s {f : Cb D} : bTst f ρ μ = ob (f ρ μ) fun d μ1 => (match d with | .bl b => some (.ok b μ1) | _ => none) := rfl
@[simp] theorem bChain_s {o1 o2 : Sto → D → D → Option D} {fa fb fc : Cb D} : bChain o1 o2 fa fb fc ρ μ = ob (fa ρ μ) fun x μ1 => ob (fb ρ μ1) fun y μ2 => onB (o1 μ2 x y) (ob (fc ρ μ2) fun z μ3 => rt (o2 μ3 y z) μ3) (some (.ok (.bl false) μ2)) := by
  unfold bChain onB
  rfl
@[simp] theorem bAndT_s {fa fb : Cb Bool} : bAndT fa fb ρ μ = ob (fa ρ μ) fun b μ1 => if b then fb ρ μ1 else some (.ok false μ1) := rfl
@[simp] theorem bOrT_s {fa fb : Cb Bool} : bOrT fa fb ρ μ = ob (fa ρ μ) fun b μ1 => if b then some (.ok true μ1) else fb ρ μ1 := rfl
@[simp] theorem bNotT_s {fa : Cb Bool} : bNotT fa ρ μ = ob (fa ρ μ) fun b μ1 => some (.ok (!b) μ1) := rfl
@[simp] theorem bAnd_s {fa fb : Cb D} : bAnd fa fb ρ μ = ob (fa ρ μ) fun x μ1 => onB (some x) (fb ρ μ1) (some (.ok (.bl false) μ1)) := by
  unfold bAnd
  congr 1; funext x μ1
  cases x <;> first | rfl | (rename_i b; cases b <;> rfl)
@[simp] theorem bOr_s {fa fb : Cb D} : bOr fa fb ρ μ = ob (fa ρ μ) fun x μ1 => onB (some x) (some (.ok (.bl true) μ1)) (fb ρ μ1) := by
  unfold bOr
  congr 1; funext x μ1
  cases x <;> first | rfl | (rename_i b; cases b <;> rfl)
@[simp] theorem bNot_s {fa : Cb D} : bNot fa ρ μ = ob (fa ρ μ) fun x μ1 => (match x with | .bl b => some (.ok (.bl (!b)) μ1) | _ => none) := rfl
@[simp] theorem bIf_s {fc : Cb Bool} {fa fb : Cb D} : bIf fc fa fb ρ μ = ob (fc ρ μ) fun b μ1 => if b then fa ρ μ1 else fb ρ μ1 := rfl
@[simp] theorem bNil_s : bNil ρ μ = some (.ok [] μ) := rfl
@[simp] theorem bCons_s {fa : Cb D} {fr : Cb (List D)} : bCons fa fr ρ μ = ob (fa ρ μ) fun x μ1 => ob (fr ρ μ1) fun xs μ2 => some (.ok (x :: xs) μ2) := rfl
@[simp] theorem bTup_s {f : Cb (List D)} : bTup f ρ μ = ob (f ρ μ) fun xs μ1 => if xs.length ≤ 16777216 then some (.ok (.tup xs) μ1) else none := rfl
@[simp] theorem bLst_s {f : Cb (List D)} : bLst f ρ μ = ob (f ρ μ) fun xs μ1 => if xs.length ≤ 16777216 then some (.ok (.lst xs) μ1) else none := rfl
@[simp] theorem bLstM_s {f : Cb (List D)} : bLstM f ρ μ = ob (f ρ μ) fun xs μ1 => if xs.length ≤ 16777216 ∧ lamfs xs = true then some (.ok (.ref μ1.length) (μ1 ++ [.lst xs])) else none := rfl
@[simp] theorem bTru_s {f : Cb D} : bTru f ρ μ = ob (f ρ μ) fun d μ1 => rt (trD μ1 d) μ1 := rfl
@[simp] theorem bCallP_s {F : FnS} {fs : Cb (List D)} : bCallP F fs ρ μ = ob (fs ρ μ) fun ds μ1 => if purs ds = true then (match F ds [] with
  | some (.ok d _) => if pur d = true then some (.ok d μ1) else none
  | some (.exc c _) => some (.exc c μ1)
  | none => none) else none := rfl
@[simp] theorem bCallM_s {F : FnS} {fs : Cb (List D)} : bCallM F fs ρ μ = ob (fs ρ μ) fun ds μ1 => if lamfs ds = true then F ds μ1 else none := rfl
@[simp] theorem bCall0_s {F : FnS} : bCall0 F ρ μ = (match F [] [] with
  | some (.ok d _) => if pur d = true then some (.ok d μ) else none
  | _ => none) := rfl
@[simp] theorem bFn_s {o : Sto → List D → Option D} {fs : Cb (List D)} : bFn o fs ρ μ = ob (fs ρ μ) fun ds μ1 => rt (o μ1 ds) μ1 := rfl
@[simp] theorem cSeq_s {f1 f2 : Cs} : cSeq f1 f2 ρ μ = (match f1 ρ μ with | some (.nx ρ1 μ1) => f2 ρ1 μ1 | r => r) := rfl
@[simp] theorem cNop_s : cNop ρ μ = some (.nx ρ μ) := rfl
@[simp] theorem cExp_s {f : Cb D} : cExp f ρ μ = obS (f ρ μ) ρ fun _ μ1 => some (.nx ρ μ1) := rfl
@[simp] theorem cRet_s {f : Cb D} : cRet f ρ μ = obS (f ρ μ) ρ fun d μ1 => some (.rt d μ1) := rfl
@[simp] theorem cRetN_s : cRetN ρ μ = some (.rt .non μ) := rfl
@[simp] theorem cIf_s {t : Cb Bool} {f1 f2 : Cs} : cIf t f1 f2 ρ μ = obS (t ρ μ) ρ fun b μ1 => if b then f1 ρ μ1 else f2 ρ μ1 := rfl
@[simp] theorem cSet_s {n : Nat} {f : Cb D} : cSet n f ρ μ = obS (f ρ μ) ρ fun d μ1 => some (.nx (ρ.set n (some d)) μ1) := rfl
@[simp] theorem cPar2_s {a b : Nat} {f : Cb (List D)} : cPar2 a b f ρ μ = obS (f ρ μ) ρ fun ds μ1 => (match ds with
  | [d, e] => some (.nx ((ρ.set a (some d)).set b (some e)) μ1)
  | _ => none) := rfl
@[simp] theorem cPar3_s {a b c : Nat} {f : Cb (List D)} : cPar3 a b c f ρ μ = obS (f ρ μ) ρ fun ds μ1 => (match ds with
  | [d, e, f] => some (.nx (((ρ.set a (some d)).set b (some e)).set c (some f)) μ1)
  | _ => none) := rfl
@[simp] theorem cAsg_s {f : Cb D} {t : Tg} : cAsg f t ρ μ = obS (f ρ μ) ρ fun d μ1 => (match t d ρ μ1 with
  | some (ρ2, μ2) => some (.nx ρ2 μ2)
  | none => none) := rfl
@[simp] theorem tgName_s {n : Nat} {d : D} : tgName n d ρ μ = some (ρ.set n (some d), μ) := rfl
@[simp] theorem tgTup_s {ts : List Tg} {xs : List D} : tgTup ts (.tup xs) ρ μ = tgs ts xs ρ μ := rfl
@[simp] theorem tgs_nil_s : tgs [] [] ρ μ = some (ρ, μ) := rfl
@[simp] theorem tgs_cons_s {tt : Tg} {ts : List Tg} {d : D} {ds : List D} : tgs (tt :: ts) (d :: ds) ρ μ = (match tt d ρ μ with | some (ρ1, μ1) => tgs ts ds ρ1 μ1 | none => none) := rfl
@[simp] theorem cAug_s {n : Nat} {o : Sto → D → D → Option (D × Sto)} {f : Cb D} : cAug n o f ρ μ = (match ρ[n]? with
  | some (some x) => obS (f ρ μ) ρ fun y μ1 => (match o μ1 x y with
    | some (z, μ2) => some (.nx (ρ.set n (some z)) μ2)
    | none => none)
  | _ => none) := rfl
@[simp] theorem cRaise_s {c : Str} : cRaise c ρ μ = some (.ex c ρ μ) := rfl
@[simp] theorem cFor_s {f : Cb (List D)} {t : Tg} {b : Cs} : cFor f t b ρ μ = obS (f ρ μ) ρ fun ds μ1 => fl t b ds ρ μ1 := rfl
@[simp] theorem cWhile_s {n : Nat} {t : Cb Bool} {b : Cs} : cWhile n t b ρ μ = wl t b n ρ μ := rfl
theorem fnS_s {N : Nat} {body : Cs} {ds : List D} : fnS N body ds μ = (match body (ds.map some ++ List.replicate (N - ds.length) none) μ with
  | some (.nx _ μ') => some (.ok .non μ')
  | some (.rt d μ') => if lamf d = true then some (.ok d μ') else none
  | some (.ex c _ μ') => some (.exc c μ')
  | _ => none) := rfl
@[simp] theorem bItems_s {f : Cb D} : bItems f ρ μ = ob (f ρ μ) fun d μ1 => (match d with | .lst xs => some (.ok xs μ1) | .tup xs => some (.ok xs μ1) | _ => none) := rfl
@[simp] theorem bRng1_s {f : Cb (List D)} : bRng1 f ρ μ = ob (f ρ μ) fun ds μ1 => (match ds with
  | [.int j] => if -4611686018427387904 ≤ j ∧ j < 4611686018427387904 then some (.ok (rngD 0 j.toNat) μ1) else none
  | _ => none) := rfl
@[simp] theorem bRng2_s {f : Cb (List D)} : bRng2 f ρ μ = ob (f ρ μ) fun ds μ1 => (match ds with
  | [.int i, .int j] => if (-4611686018427387904 ≤ i ∧ i < 4611686018427387904) ∧ -4611686018427387904 ≤ j ∧ j < 4611686018427387904 then some (.ok (rngD i (j - i).toNat) μ1) else none
  | _ => none) := rfl
@[simp] theorem bComp_s {own : List Nat} {fit : Cb (List D)} {t : Tg} {fc : Cb Bool} {fe : Cb D} : bComp own fit t fc fe ρ μ = ob (fit ρ μ) fun ds μ1 => ob (cl t fc fe ds [] (wipeD ρ own) μ1) fun acc μ2 => some (.ok (.lst acc) μ2) := rfl
@[simp] theorem bYes_s : bYes ρ μ = some (.ok true μ) := rfl
@[simp] theorem bFmt_s {f : Cb D} : bFmt f ρ μ = ob (f ρ μ) fun d μ1 => (match d with
  | .str y => if y.length ≤ 16777216 then some (.ok (.str y) μ1) else none
  | .int i => if i.natAbs.log2 < 1920 then some (.ok (.str (toS i)) μ1) else none
  | _ => none) := rfl
@[simp] theorem bJs_nil {acc : Str} : bJs [] acc ρ μ = some (.ok (.str acc) μ) := rfl
@[simp] theorem bJs_cons {f : Cb D} {fs : List (Cb D)} {acc : Str} : bJs (f :: fs) acc ρ μ = ob (f ρ μ) fun d μ1 => (match d with
  | .str y => if (acc ++ y).length ≤ 16777216 then bJs fs (acc ++ y) ρ μ1 else none
  | _ => none) := rfl
@[simp] theorem bM1_s {o : Sto → Str → D → Option D} {fa fb : Cb D} : bM1 o fa fb ρ μ = ob (fa ρ μ) fun x μ1 => (match x with
  | .str a => ob (fb ρ μ1) fun y μ2 => rt (o μ2 a y) μ2
  | _ => none) := rfl
@[simp] theorem bAnyG_s {ff : Cb D} {fe : D → Option D} : bAnyG ff fe ρ μ = ob (ff ρ μ) fun d μ1 => anyR fe (gnItems μ1 d) μ1 := rfl
@[simp] theorem bNoPart_s : bNoPart ρ μ = some (.ok none μ) := rfl
@[simp] theorem bPart_s {f : Cb D} : bPart f ρ μ = ob (f ρ μ) fun d μ1 => (match d with
  | .int i => some (.ok (some i) μ1)
  | _ => none) := rfl
@[simp] theorem bSl_s {fa : Cb D} {fl fh : Cb (Option Int)} : bSl fa fl fh ρ μ = ob (fa ρ μ) fun x μ1 => ob (fl ρ μ1) fun lo μ2 => ob (fh ρ μ2) fun hi μ3 => rt (dSl μ3 x lo hi) μ3 := rfl
@[simp] theorem bRng3n_s {f : Cb (List D)} : bRng3n f ρ μ = ob (f ρ μ) fun ds μ1 => (match ds with
  | [.int i, .int j, .int c] => if c = -1 ∧ (-4611686018427387904 ≤ i ∧ i < 4611686018427387904) ∧ -4611686018427387904 ≤ j ∧ j < 4611686018427387904 then some (.ok (dnD i (i - j).toNat) μ1) else none
  | _ => none) := rfl
@[simp] theorem bDisp_s {kfs : List (Key × Cb D)} : bDisp kfs ρ μ = if kfs.length ≤ 15 ∧ (kfs.map (·.1)).Nodup then ob (bVals kfs ρ μ) fun xs μ1 => some (.ok (.dct (kfs.map (·.1)) xs) μ1) else none := rfl
@[simp] theorem bVals_nil : bVals [] = bNil := rfl
@[simp] theorem bVals_cons {kf : Key × Cb D} {r : List (Key × Cb D)} : bVals (kf :: r) = bCons kf.2 (bVals r) := rfl
/-! operations -/
@[simp] theorem dAdd_i : dAdd μ (.int i) (.int j) = some (.int (i + j)) := rfl
@[simp] theorem dAdd_s : dAdd μ (.str s) (.str t) = if s.length + t.length ≤ 16777216 then some (.str (s ++ t)) else none := rfl
@[simp] theorem dAdd_t {xs ys : List D} : dAdd μ (.tup xs) (.tup ys) = if xs.length + ys.length ≤ 16777216 then some (.tup (xs ++ ys)) else none := rfl
@[simp] theorem dAdd_l {xs ys : List D} : dAdd μ (.lst xs) (.lst ys) = if xs.length + ys.length ≤ 16777216 then some (.lst (xs ++ ys)) else none := rfl
@[simp] theorem dStr_i : dStr μ [.int i] = if i.natAbs.log2 < 1920 then some (.str (toS i)) else none := rfl
@[simp] theorem dSub_i : dSub μ (.int i) (.int j) = some (.int (i - j)) := rfl
@[simp] theorem dMul_i : dMul μ (.int i) (.int j) = if mulOk i j then some (.int (i * j)) else none := rfl
@[simp] theorem dDiv_i : dDiv μ (.int i) (.int j) = if divOk i j then some (.int (i / j)) else none := rfl
@[simp] theorem dMod_i : dMod μ (.int i) (.int j) = if modOk i j then some (.int (i % j)) else none := rfl
@[simp] theorem dLt_i : dLt μ (.int i) (.int j) = some (.bl (decide (i < j))) := rfl
@[simp] theorem dLe_i : dLe μ (.int i) (.int j) = some (.bl (decide (i ≤ j))) := rfl
@[simp] theorem dGt_i : dGt μ (.int i) (.int j) = some (.bl (decide (j < i))) := rfl
@[simp] theorem dGe_i : dGe μ (.int i) (.int j) = some (.bl (decide (j ≤ i))) := rfl
theorem beq_dec (i j : Int) : (i == j) = decide (i = j) := by rw [Bool.eq_iff_iff]; simp
@[simp] theorem dEq_i : dEq μ (.int i) (.int j) = some (.bl (decide (i = j))) := by show some (D.bl (i == j)) = _; rw [beq_dec]
@[simp] theorem dNe_i : dNe μ (.int i) (.int j) = some (.bl (!decide (i = j))) := by show some (D.bl (!(i == j))) = _; rw [beq_dec]
@[simp] theorem dEq_s : dEq μ (.str s) (.str t) = some (.bl (decide (s = t))) := rfl
@[simp] theorem dNe_s : dNe μ (.str s) (.str t) = some (.bl (!decide (s = t))) := rfl
@[simp] theorem dIx_t {xs : List D} : dIx μ (.tup xs) (.int i) = atI xs i := rfl
@[simp] theorem dIx_l {xs : List D} : dIx μ (.lst xs) (.int i) = atI xs i := rfl
@[simp] theorem dLen_l {xs : List D} : dLen μ [.lst xs] = some (.int xs.length) := rfl
@[simp] theorem dLen_t {xs : List D} : dLen μ [.tup xs] = some (.int xs.length) := rfl
@[simp] theorem dInt_i : dInt μ [.int i] = some (.int i) := rfl
@[simp] theorem dInt_b {b : Bool} : dInt μ [.bl b] = some (.int (if b then 1 else 0)) := rfl
@[simp] theorem dAbs_i : dAbs μ [.int i] = some (.int (if i < 0 then -i else i)) := rfl
@[simp] theorem dMax2_i : dMax2 μ [.int i, .int j] = some (.int (if j > i then j else i)) := rfl
@[simp] theorem dMin2_i : dMin2 μ [.int i, .int j] = some (.int (if j < i then j else i)) := rfl
@[simp] theorem dIAdd_i : dIAdd μ (.int i) (.int j) = some (.int (i + j), μ) := rfl
@[simp] theorem dISub_i : dISub μ (.int i) (.int j) = some (.int (i - j), μ) := rfl
end
end Mi

set_option Elab.async false
set_option linter.all false
set_option maxRecDepth 100000
set_option maxHeartbeats 4000000
namespace Mi
open PySem L2
/-! ### loops by invariants -/
theorem fl_run {t : Tg} {b : Cs} {I : Nat → En → Sto → Prop} : ∀ (ds : List D) (k : Nat), (∀ (i : Nat) (d : D) (ρ : En) (μ : Sto), ds[i]? = some d → I (k + i) ρ μ → ∃ ρ1 μ1 ρ2 μ2, t d ρ μ = some (ρ1, μ1) ∧ b ρ1 μ1 = some (.nx ρ2 μ2) ∧ I (k + i + 1) ρ2 μ2) →
    ∀ (ρ : En) (μ : Sto), I k ρ μ → ∃ ρ' μ', fl t b ds ρ μ = some (.nx ρ' μ') ∧ I (k + ds.length) ρ' μ'
  | [], k, _, ρ, μ, h => ⟨ρ, μ, rfl, h⟩
  | d :: ds, k, hs, ρ, μ, h => by
    obtain ⟨ρ1, μ1, ρ2, μ2, e1, e2, h2⟩ := hs 0 d ρ μ rfl h
    obtain ⟨ρ', μ', e3, h3⟩ := fl_run ds (k + 1) (fun i d' ρ μ hd hi => by
      have e : k + 1 + i = k + (i + 1) := by omega
      rw [e] at hi ⊢
      exact hs (i + 1) d' ρ μ (by simpa using hd) hi) ρ2 μ2 (by simpa using h2)
    refine ⟨ρ', μ', ?_, ?_⟩
    · show (match t d ρ μ with
        | some (ρ1, μ1) => (match b ρ1 μ1 with
          | some (.nx ρ2 μ2) => fl t b ds ρ2 μ2
          | some (.ct ρ2 μ2) => fl t b ds ρ2 μ2
          | some (.bk ρ2 μ2) => some (.nx ρ2 μ2)
          | r => r)
        | none => none) = _
      rw [e1]
      dsimp only
      rw [e2]
      exact e3
    · have e : k + 1 + ds.length = k + (d :: ds).length := by rw [List.length_cons]; omega
      rw [← e]; exact h3
theorem rngD_len (lo : Int) (n : Nat) : (rngD lo n).length = n := by unfold rngD; simp
theorem rngD_get {lo : Int} {n i : Nat} {d : D} (h : (rngD lo n)[i]? = some d) : i < n ∧ d = .int (lo + i) := by
  unfold rngD at h
  rw [List.getElem?_map] at h
  obtain ⟨j, h1, h2⟩ := Option.map_eq_some_iff.mp h
  obtain ⟨h3, h4⟩ := List.getElem?_eq_some_iff.mp h1
  simp at h3 h4
  exact ⟨h3, by rw [← h2, ← h4]⟩
theorem rng_run {t : Tg} {b : Cs} {I : Nat → En → Sto → Prop} (lo : Int) (n : Nat) (hs : ∀ (i : Nat) (ρ : En) (μ : Sto), i < n → I i ρ μ → ∃ ρ1 μ1 ρ2 μ2, t (.int (lo + i)) ρ μ = some (ρ1, μ1) ∧ b ρ1 μ1 = some (.nx ρ2 μ2) ∧ I (i + 1) ρ2 μ2) {ρ : En} {μ : Sto} (h : I 0 ρ μ) :
    ∃ ρ' μ', fl t b (rngD lo n) ρ μ = some (.nx ρ' μ') ∧ I n ρ' μ' := by
  have := fl_run (t := t) (b := b) (I := I) (rngD lo n) 0 (fun i d ρ μ hd hi => by
    obtain ⟨h1, rfl⟩ := rngD_get hd
    rw [Nat.zero_add] at hi ⊢
    exact hs i ρ μ h1 hi) ρ μ h
  rw [Nat.zero_add, rngD_len] at this
  exact this
/-- a for over a range, the store left alone, the state a function of the turn and the loop's name -/
theorem rng_tg {b : Cs} (v : Nat) (st : Nat → Option D → En) {μ : Sto} (lo : Int) (n : Nat) (hset : ∀ (i : Nat) (o : Option D) (d : D), (st i o).set v (some d) = st i (some d)) (hs : ∀ (i : Nat), i < n → b (st i (some (.int (lo + i)))) μ = some (.nx (st (i + 1) (some (.int (lo + i)))) μ)) (o : Option D) :
    ∃ o', fl (tgName v) b (rngD lo n) (st 0 o) μ = some (.nx (st n o') μ) := by
  obtain ⟨ρ', μ', h1, h2, o', h3⟩ := rng_run (t := tgName v) (b := b) (I := fun i ρ μ1 => μ1 = μ ∧ ∃ o, ρ = st i o) lo n (fun i ρ μ1 hi ⟨e1, o, e2⟩ => by
    subst e1 e2
    exact ⟨_, _, _, _, rfl, by rw [hset]; exact hs i hi, rfl, _, rfl⟩) (ρ := st 0 o) (μ := μ) ⟨rfl, o, rfl⟩
  subst h2 h3
  exact ⟨o', h1⟩
theorem wl_run {t : Cb Bool} {b : Cs} {I : Nat → En → Sto → Prop} (N : Nat) (step : ∀ (i : Nat) (ρ : En) (μ : Sto), i < N → I i ρ μ → t ρ μ = some (.ok true μ) ∧ ∃ ρ2 μ2, b ρ μ = some (.nx ρ2 μ2) ∧ I (i + 1) ρ2 μ2) (last : ∀ (ρ : En) (μ : Sto), I N ρ μ → t ρ μ = some (.ok false μ)) :
    ∀ (n i : Nat), N < n + i → i ≤ N → ∀ (ρ : En) (μ : Sto), I i ρ μ → ∃ ρ' μ', wl t b n ρ μ = some (.nx ρ' μ') ∧ I N ρ' μ'
  | 0, i, h, hi, ρ, μ, _ => by omega
  | n + 1, i, h, hi, ρ, μ, hI => by
    by_cases e : i = N
    · subst e
      have := last ρ μ hI
      refine ⟨ρ, μ, ?_, hI⟩
      unfold wl
      rw [this]
      simp
    · obtain ⟨h1, ρ2, μ2, h2, h3⟩ := step i ρ μ (by omega) hI
      obtain ⟨ρ', μ', h4, h5⟩ := wl_run N step last n (i + 1) (by omega) (by omega) ρ2 μ2 h3
      refine ⟨ρ', μ', ?_, h5⟩
      unfold wl
      rw [h1]
      simp [h2, h4]
/-- a while, the store left alone, the state a function of the turn -/
theorem wl_tg {t : Cb Bool} {b : Cs} (st : Nat → En) {μ : Sto} (N n : Nat) (hn : N < n) (step : ∀ i : Nat, i < N → t (st i) μ = some (.ok true μ) ∧ b (st i) μ = some (.nx (st (i + 1)) μ)) (last : t (st N) μ = some (.ok false μ)) :
    wl t b n (st 0) μ = some (.nx (st N) μ) := by
  obtain ⟨ρ', μ', h1, h2, h3⟩ := wl_run (t := t) (b := b) (I := fun i ρ μ1 => ρ = st i ∧ μ1 = μ) N (fun i ρ μ1 hi ⟨e1, e2⟩ => by
    subst e1 e2
    exact ⟨(step i hi).1, _, _, (step i hi).2, rfl, rfl⟩) (fun ρ μ1 ⟨e1, e2⟩ => by
    subst e1 e2
    exact last) n 0 (by omega) (Nat.zero_le _) (st 0) μ ⟨rfl, rfl⟩
  subst h2 h3
  exact h1
/-- a comprehension whose parts leave the store alone -/
theorem cl_pure {t : Tg} {fc : Cb Bool} {fe : Cb D} {ρ : En} {μ : Sto} (p : D → Bool) (f : D → D) : ∀ (ds acc : List D), (∀ d ∈ ds, ∃ ρ1, t d ρ μ = some (ρ1, μ) ∧ fc ρ1 μ = some (.ok (p d) μ) ∧ (p d = true → fe ρ1 μ = some (.ok (f d) μ))) → acc.length + ds.length ≤ 16777216 →
    cl t fc fe ds acc ρ μ = some (.ok (acc ++ (ds.filter p).map f) μ)
  | [], acc, _, _ => by simp [cl]
  | d :: ds, acc, h, hz => by
    rw [List.length_cons] at hz
    obtain ⟨ρ1, h1, h2, h3⟩ := h d List.mem_cons_self
    have h' : ∀ d ∈ ds, _ := fun d hd => h d (List.mem_cons_of_mem _ hd)
    unfold cl
    rw [h1]
    dsimp only
    rw [h2]
    cases hp : p d with
    | false =>
      dsimp only
      rw [cl_pure p f ds acc h' (by omega)]
      simp [hp]
    | true =>
      dsimp only
      rw [h3 hp]
      dsimp only
      rw [if_pos (by omega), cl_pure p f ds (acc ++ [f d]) h' (by simp; omega)]
      simp [hp]
end Mi

set_option Elab.async false
set_option linter.all false
set_option maxRecDepth 100000
set_option maxHeartbeats 4000000
namespace Mi
open PySem L2 TL
/-! ### texts -/
theorem log2_ok {i : Int} (h : -18446744073709551616 < i ∧ i < 18446744073709551616) : i.natAbs.log2 < 1920 := by
  by_cases h0 : i.natAbs = 0
  · rw [h0]; decide
  · have := (Nat.log2_lt h0 (k := 64)).mpr (by omega)
    omega
theorem s_assoc (a b c : Str) : a ++ b ++ c = a ++ (b ++ c) := by
  apply ext_tl
  rw [tl_append, tl_append, tl_append, tl_append, List.append_assoc]
@[simp] theorem s_nil (a : Str) : Str.empty ++ a = a := by
  apply ext_tl
  rw [tl_append]
  rfl
@[simp] theorem s_nil2 (a : Str) : (Str.ofString "") ++ a = a := by
  have : Str.ofString "" = Str.empty := by decide +kernel
  rw [this, s_nil]
theorem len_app (a b : Str) : (a ++ b).length = a.length + b.length := by
  show (a.cps ++ b.cps).size = a.cps.size + b.cps.size
  exact Array.size_append
theorem len_tl (a : Str) : a.length = (tl a).length := by simp [Str.length]
/-- all signs are figures -/
def digB (s : Str) : Bool := s.cps.toList.all fun c => decide (48 ≤ c) && decide (c ≤ 57)
theorem digB_app {a b : Str} : digB (a ++ b) = (digB a && digB b) := by
  unfold digB
  rw [show (a ++ b).cps.toList = a.cps.toList ++ b.cps.toList from tl_append a b, List.all_append]
theorem digB_no {s : Str} (h : digB s = true) {c : Nat} (hc : c < 48 ∨ 57 < c) : c ∉ tl s := by
  intro hm
  have := List.all_eq_true.mp h c hm
  simp at this
  omega
theorem dig_in {c : Nat} (h : 48 ≤ c ∧ c ≤ 57) : dNinT [] (.str ⟨#[c]⟩) (.str "0123456789") = some (.bl false) := by
  have hc : c = 48 ∨ c = 49 ∨ c = 50 ∨ c = 51 ∨ c = 52 ∨ c = 53 ∨ c = 54 ∨ c = 55 ∨ c = 56 ∨ c = 57 := by omega
  rcases hc with rfl | rfl | rfl | rfl | rfl | rfl | rfl | rfl | rfl | rfl <;> rfl
theorem dig_any : ∀ {l : List Nat}, (l.all fun c => decide (48 ≤ c) && decide (c ≤ 57)) = true → ∃ bs, blsD (qBin dNinT qVar (qCon (.str "0123456789"))) (l.map fun c => D.str ⟨#[c]⟩) = some bs ∧ bs.any id = false
  | [], _ => ⟨[], rfl, rfl⟩
  | c :: l, h => by
    simp only [List.all_cons, Bool.and_eq_true, decide_eq_true_eq] at h
    obtain ⟨bs, h1, h2⟩ := dig_any (l := l) (by simp only [List.all_eq_true, Bool.and_eq_true, decide_eq_true_eq]; simpa using h.2)
    refine ⟨false :: bs, ?_, by simpa using h2⟩
    have e : qBin dNinT qVar (qCon (.str "0123456789")) (.str ⟨#[c]⟩) = some (.bl false) := dig_in h.1
    show (match qBin dNinT qVar (qCon (.str "0123456789")) (.str ⟨#[c]⟩) with
      | some (.bl b) => (match blsD (qBin dNinT qVar (qCon (.str "0123456789"))) (l.map fun c => D.str ⟨#[c]⟩) with
        | some bs => some (b :: bs)
        | none => none)
      | _ => none) = _
    rw [e, h1]
theorem gn_str {μ : Sto} {z : Str} : gnItems μ (.str z) = some (signsD z) := rfl
theorem dig_anyS {z : Str} (h : digB z = true) : ∃ bs, blsD (qBin dNinT qVar (qCon (.str "0123456789"))) (signsD z) = some bs ∧ bs.any id = false := dig_any h
/-- digits of small numbers -/
theorem one_dig {i : Int} (h : 0 ≤ i ∧ i < 10) : (toS i).length = 1 ∧ digB (toS i) = true := by
  have : i = 0 ∨ i = 1 ∨ i = 2 ∨ i = 3 ∨ i = 4 ∨ i = 5 ∨ i = 6 ∨ i = 7 ∨ i = 8 ∨ i = 9 := by omega
  rcases this with rfl | rfl | rfl | rfl | rfl | rfl | rfl | rfl | rfl | rfl <;> decide +kernel
def two (n : Int) : Str := toS (n / 10) ++ toS (n % 10)
theorem two_dig {i : Int} (h : 0 ≤ i ∧ i < 100) : (two i).length = 2 ∧ digB (two i) = true := by
  have h1 := one_dig (i := i / 10) (by omega)
  have h2 := one_dig (i := i % 10) (by omega)
  unfold two
  rw [len_app, digB_app, h1.1, h2.1, h1.2, h2.2]
  exact ⟨rfl, rfl⟩
theorem two_int {i : Int} (h : 0 ≤ i ∧ i < 100) : PySem.intText? (two i) = some i := by
  have key : ∀ n : Fin 100, PySem.intText? (two (n.val : Int)) = some (n.val : Int) := by decide +kernel
  have := key ⟨i.toNat, by omega⟩
  have e : ((i.toNat : Nat) : Int) = i := by omega
  simp only [e] at this
  exact this
theorem year_dig {i : Int} (h : 2000 ≤ i ∧ i < 2200) : (toS i).length = 4 ∧ digB (toS i) = true ∧ PySem.intText? (toS i) = some i := by
  have key : ∀ n : Fin 200, (toS (2000 + (n.val : Int))).length = 4 ∧ digB (toS (2000 + (n.val : Int))) = true ∧ PySem.intText? (toS (2000 + (n.val : Int))) = some (2000 + (n.val : Int)) := by decide +kernel
  have := key ⟨(i - 2000).toNat, by omega⟩
  have e : (2000 + ((i - 2000).toNat : Int)) = i := by omega
  simp only [e] at this
  exact this
end Mi

set_option Elab.async false
set_option linter.all false
set_option maxRecDepth 100000
set_option maxHeartbeats 4000000
namespace Mi
open PySem L2 TL
/-! ### the laws' dice -/
def gDice : FnS := fnS 1 (cSeq (cIf (bTst (bChain dLt dLt (bBin dSub (bCon (.int 0)) (bCon (.int 10))) (bVar 0) (bCon (.int 10)))) (cRet (bLstM (bCons (bFn dAbs (bCons (bVar 0) (bNil))) (bCons (bCon (.int 0)) (bCons (bCon (.int 2)) (bNil)))))) (cNop)) (cRet (bLstM (bCons (bVar 0) (bCons (bBin dAdd (bCon (.int 1)) (bBin dMod (bFn dInt (bCons (bVar 0) (bNil))) (bCon (.int 1009)))) (bCons (bFn dInt (bCons (bBin dGe (bVar 0) (bBin dPow (bCon (.int 10)) (bCon (.int 18)))) (bNil))) (bNil)))))))
def gRoll : FnS := fnS 3 (cSeq (cIf (bOrT (bTst (bBin dEq (bBin dIx (bVar 0) (bCon (.int 2))) (bCon (.int 2)))) (bAndT (bTst (bBin dEq (bBin dIx (bVar 0) (bCon (.int 2))) (bCon (.int 1)))) (bTst (bBin dGt (bBin dIx (bVar 0) (bCon (.int 0))) (bCon (.int 0)))))) (cSeq (cSet 2 (bBin dMod (bFn dInt (bCons (bBin dIx (bVar 0) (bCon (.int 0))) (bNil))) (bVar 1))) (cSeq (cAsg (bBin dDiv (bBin dIx (bVar 0) (bCon (.int 0))) (bVar 1)) (tgSub (bVar 0) (bCon (.int 0)))) (cRet (bVar 2)))) (cNop)) (cSeq (cAsg (bCon (.int 0)) (tgSub (bVar 0) (bCon (.int 2)))) (cSeq (cIf (bTst (bBin dGt (bVar 1) (bCon (.int 100000000)))) (cStuck) (cNop)) (cSeq (cAsg (bBin dMod (bFn dInt (bCons (bBin dAdd (bBin dAdd (bBin dMul (bBin dIx (bVar 0) (bCon (.int 0))) (bCon (.int 48271))) (bBin dMul (bBin dIx (bVar 0) (bCon (.int 1))) (bCon (.int 69621)))) (bCon (.int 11))) (bNil))) (bCon (.int 2147483647))) (tgSub (bVar 0) (bCon (.int 0)))) (cSeq (cAsg (bBin dAdd (bBin dIx (bVar 0) (bCon (.int 1))) (bCon (.int 1))) (tgSub (bVar 0) (bCon (.int 1)))) (cRet (bBin dMod (bFn dInt (bCons (bBin dDiv (bBin dIx (bVar 0) (bCon (.int 0))) (bCon (.int 7))) (bNil))) (bVar 1))))))))
def gRounds : FnS := fnS 4 (cSeq (cSet 2 (bSl (bVar 0) (bNoPart) (bPart (bVar 1)))) (cSeq (cIf (bTst (bBin dEq (bVar 2) (bLst (bNil)))) (cSet 2 (bLst (bCons (bCon (.int 0)) (bNil)))) (cNop)) (cRet (bComp [3] (bItems (bVar 2)) (tgName 3) (bYes) (bCallM gDice (bCons (bVar 3) (bNil)))))))
theorem tgSub_at {fo fi : Cb D} {d : D} {ρ : En} {μ : Sto} {n j : Nat} {i : Int} {xs : List D} (h1 : fo ρ μ = some (.ok (.ref n) μ)) (h2 : fi ρ μ = some (.ok (.int i) μ)) (h3 : μ[n]? = some (.lst xs)) (h4 : ixN xs.length i = some j) (h5 : lamf d = true) : tgSub fo fi d ρ μ = some (ρ, μ.set n (.lst (xs.set j d))) := by
  unfold tgSub
  simp [h1, h2, h3, h4, h5]
theorem roll_s {μ : Sto} {n : Nat} {a b c many : Int} (hμ : μ[n]? = some (.lst [.int a, .int b, .int c])) (h0 : 0 < many) (h1 : many ≤ 100000000) :
    ∃ r a' b' c', 0 ≤ r ∧ r < many ∧ gRoll [.ref n, .int many] μ = some (.ok (.int r) (μ.set n (.lst [.int a', .int b', .int c']))) := by
  have hl : n < μ.length := (List.getElem?_eq_some_iff.mp hμ).1
  have hg : ∀ x, (μ.set n x)[n]? = some x := fun x => List.getElem?_set_self hl
  have hd : many < 1073741824 := by omega
  have hm : ¬ 100000000 < many := by omega
  unfold gRoll
  rw [fnS_s]
  by_cases hc : c = 2 ∨ (c = 1 ∧ 0 < a)
  · refine ⟨a % many, a / many, b, c, Int.emod_nonneg _ (by omega), Int.emod_lt_of_pos _ h0, ?_⟩
    have e : (if c = 2 then true else (if c = 1 then decide (0 < a) else false)) = true := by
      rcases hc with h | ⟨h, h'⟩
      · simp [h]
      · subst h; simp [h']
    rcases hc with h | ⟨h, h'⟩
    · subst h
      simp [dIx, sqD, vw, hμ, atI, ixN, modOk, divOk, h0, hd, tgSub, lamf]
    · subst h
      simp [dIx, sqD, vw, hμ, atI, ixN, modOk, divOk, h0, hd, h', tgSub, lamf]
  · refine ⟨(a * 48271 + b * 69621 + 11) % 2147483647 / 7 % many, (a * 48271 + b * 69621 + 11) % 2147483647, b + 1, 0, Int.emod_nonneg _ (by omega), Int.emod_lt_of_pos _ h0, ?_⟩
    have e1 : ¬ c = 2 := fun h => hc (.inl h)
    by_cases e2 : c = 1
    · have e3 : ¬ 0 < a := fun h => hc (.inr ⟨e2, h⟩)
      subst e2
      simp [dIx, sqD, vw, hμ, atI, ixN, modOk, divOk, mulOk, h0, hd, hm, e3, tgSub, lamf, hg]
    · simp [dIx, sqD, vw, hμ, atI, ixN, modOk, divOk, mulOk, h0, hd, hm, e1, e2, tgSub, lamf, hg]
theorem dice_s (cell : Int) (μ : Sto) : ∃ a b c, gDice [.int cell] μ = some (.ok (.ref μ.length) (μ ++ [.lst [.int a, .int b, .int c]])) := by
  unfold gDice
  rw [fnS_s]
  have e : dPow (μ) (.int 10) (.int 18) = some (.int 1000000000000000000) := by rfl
  by_cases h1 : -10 < cell ∧ cell < 10
  · refine ⟨if cell < 0 then -cell else cell, 0, 2, ?_⟩
    simp [h1.1, h1.2, lamfs, lamf]
  · refine ⟨cell, 1 + cell % 1009, if 1000000000000000000 ≤ cell then 1 else 0, ?_⟩
    by_cases h2 : -10 < cell
    · have h3 : ¬ cell < 10 := fun h => h1 ⟨h2, h⟩
      simp [h2, h3, lamfs, lamf, e, modOk]
    · simp [h2, lamfs, lamf, e, modOk]
theorem rounds_s (ns : List Int) : ∃ a b c, gRounds [.scr ns, .int 1] [] = some (.ok (.lst [.ref 0]) [.lst [.int a, .int b, .int c]]) := by
  unfold gRounds
  rw [fnS_s]
  cases ns with
  | nil =>
    obtain ⟨a, b, c, h⟩ := dice_s 0 []
    have e : dSl [] (.scr []) none (some 1) = some (.lst []) := by rfl
    have e2 : dEq [] (.lst []) (.lst []) = some (.bl true) := by rfl
    refine ⟨a, b, c, ?_⟩
    simp [e, e2, cl, wipeD, lamfs, lamf, h]
  | cons x r =>
    obtain ⟨a, b, c, h⟩ := dice_s x []
    have e : dSl [] (.scr (x :: r)) none (some 1) = some (.lst [.int x]) := by
      have h1 : cutD (x :: r) none (some 1) = [x] := by
        unfold cutD
        simp [HT.sIx]
      unfold dSl
      dsimp only
      rw [h1]
      rfl
    have e2 : dEq [] (.lst [.int x]) (.lst []) = some (.bl false) := by rfl
    refine ⟨a, b, c, ?_⟩
    simp [e, e2, cl, wipeD, lamfs, lamf, h]
end Mi

set_option Elab.async false
set_option linter.all false
set_option maxRecDepth 100000
set_option maxHeartbeats 4000000
namespace Mi
open PySem L2 TL
/-! ### == of ints' tuples and lists -/
theorem pds_ints : ∀ xs : List Int, pds (xs.map .int) = some (xs.map PyData.int)
  | [] => rfl
  | x :: xs => by simp [pds, pd, pds_ints xs]
theorem lay_ints : ∀ xs : List Int, PyData.canLayAll0 (xs.map PyData.int) = true
  | [] => by simp [PyData.canLayAll0]
  | x :: xs => by simp [PyData.canLayAll0, PyData.canLay0, lay_ints xs]
theorem dep_ints : ∀ xs : List Int, PyData.depthAll (xs.map PyData.int) ≤ 1
  | [] => by simp [PyData.depthAll]
  | x :: xs => by
    have := dep_ints xs
    simp only [List.map_cons, PyData.depthAll, PyData.depth]
    omega
theorem eqv_ints : ∀ xs ys : List Int, PyData.eqvAll (xs.map PyData.int) (ys.map PyData.int) = decide (xs = ys)
  | [], [] => by simp [PyData.eqvAll]
  | [], y :: ys => by simp [PyData.eqvAll]
  | x :: xs, [] => by simp [PyData.eqvAll]
  | x :: xs, y :: ys => by
    rw [List.map_cons, List.map_cons, PyData.eqvAll, eqv_ints xs ys, PyData.eqv, beq_dec, Bool.eq_iff_iff]
    simp
theorem eqB_tup (xs ys : List Int) : dEqB (.tup (xs.map .int)) (.tup (ys.map .int)) = some (decide (xs = ys)) := by
  have h1 : ∀ zs : List Int, SeqAt.shaped (.tuple (zs.map PyData.int)) = true := fun zs => by
    have := dep_ints zs
    unfold SeqAt.shaped
    rw [PyData.canLay0, lay_ints, PyData.depth, Bool.true_and]
    refine decide_eq_true ?_
    omega
  unfold dEqB
  simp only [pd, pds_ints, h1, PyData.eqv, eqv_ints, Bool.and_self, if_true, ite_true]
theorem eqB_lst (xs ys : List Int) : dEqB (.lst (xs.map .int)) (.lst (ys.map .int)) = some (decide (xs = ys)) := by
  have h1 : ∀ zs : List Int, SeqAt.shaped (.list (zs.map PyData.int)) = true := fun zs => by
    have := dep_ints zs
    unfold SeqAt.shaped
    rw [PyData.canLay0, lay_ints, PyData.depth, Bool.true_and]
    refine decide_eq_true ?_
    omega
  unfold dEqB
  simp only [pd, pds_ints, h1, PyData.eqv, eqv_ints, Bool.and_self, if_true, ite_true]
section
variable {μ : Sto}
theorem dNe_tup (xs ys : List Int) : dNe μ (.tup (xs.map .int)) (.tup (ys.map .int)) = some (.bl (!decide (xs = ys))) := by unfold dNe; rw [eqB_tup]
theorem dEq_tup (xs ys : List Int) : dEq μ (.tup (xs.map .int)) (.tup (ys.map .int)) = some (.bl (decide (xs = ys))) := by unfold dEq; rw [eqB_tup]
theorem dNe_lst (xs ys : List Int) : dNe μ (.lst (xs.map .int)) (.lst (ys.map .int)) = some (.bl (!decide (xs = ys))) := by unfold dNe; rw [eqB_lst]
theorem dEq_lst (xs ys : List Int) : dEq μ (.lst (xs.map .int)) (.lst (ys.map .int)) = some (.bl (decide (xs = ys))) := by unfold dEq; rw [eqB_lst]
@[simp] theorem dNe_2 {a b c d : Int} : dNe μ (.tup [.int a, .int b]) (.tup [.int c, .int d]) = some (.bl (!decide (a = c ∧ b = d))) := by
  have := dNe_tup (μ := μ) [a, b] [c, d]
  simpa using this
@[simp] theorem dNe_3 {a b c d e f : Int} : dNe μ (.tup [.int a, .int b, .int c]) (.tup [.int d, .int e, .int f]) = some (.bl (!decide (a = d ∧ b = e ∧ c = f))) := by
  have := dNe_tup (μ := μ) [a, b, c] [d, e, f]
  simpa using this
@[simp] theorem dEq_2 {a b c d : Int} : dEq μ (.tup [.int a, .int b]) (.tup [.int c, .int d]) = some (.bl (decide (a = c ∧ b = d))) := by
  have := dEq_tup (μ := μ) [a, b] [c, d]
  simpa using this
theorem dEq_nil (xs : List Int) : dEq μ (.lst (xs.map .int)) (.lst []) = some (.bl (decide (xs = []))) := dEq_lst xs []
theorem dNe_nil (xs : List Int) : dNe μ (.lst (xs.map .int)) (.lst []) = some (.bl (!decide (xs = []))) := dNe_lst xs []
theorem dNe_nn : dNe μ (.lst []) (.lst []) = some (.bl false) := by rfl
end
@[simp] theorem atI_0 {α : Type} {x : α} {r : List α} : atI (x :: r) 0 = some x := by simp [atI, ixN]
@[simp] theorem atI_1 {α : Type} {x y : α} {r : List α} : atI (x :: y :: r) 1 = some y := by
  have h : (1 : Int) < (r.length : Int) + 1 + 1 := by omega
  simp [atI, ixN, h]
@[simp] theorem atI_2 {α : Type} {x y z : α} {r : List α} : atI (x :: y :: z :: r) 2 = some z := by
  have h : (2 : Int) < (r.length : Int) + 1 + 1 + 1 := by omega
  simp [atI, ixN, h]
theorem atI_ofNat {α : Type} (xs : List α) (n : Nat) : atI xs (n : Int) = xs[n]? := by
  unfold atI ixN
  rw [if_pos (by omega)]
  by_cases h : (n : Int) < xs.length
  · rw [if_pos h]
    simp
  · rw [if_neg h]
    have : xs.length ≤ n := by omega
    simp [List.getElem?_eq_none this]
theorem seq_nx {f1 f2 : Cs} {ρ ρ1 : En} {μ μ1 : Sto} {r : Option SOut} (h : f1 ρ μ = some (.nx ρ1 μ1)) (h2 : f2 ρ1 μ1 = r) : cSeq f1 f2 ρ μ = r := by
  unfold cSeq
  rw [h]
  exact h2
end Mi

set_option Elab.async false
set_option linter.all false
set_option maxRecDepth 100000
set_option maxHeartbeats 4000000
namespace K01
open PySem PyProof.Rows L2 Mi LamX
def top (i : Nat) : Stmt := PySem.Challenge.pw_paystack_k01_days_and_spans_paid.main.body.getD i (.Pass ⟨0, 0, 0, 0⟩)
abbrev s_is_leap : Stmt := top 7
abbrev s_days_in_month : Stmt := top 8
abbrev s_day_of : Stmt := top 9
abbrev s_date_of : Stmt := top 10
abbrev s_week_day : Stmt := top 11
abbrev s_told_date : Stmt := top 12
abbrev s_two_figures : Stmt := top 13
abbrev s_read_date : Stmt := top 14
abbrev s_period_of : Stmt := top 15
abbrev s_periods_in_year : Stmt := top 16
abbrev s_work_days : Stmt := top 17
abbrev s_paid_on : Stmt := top 18
abbrev s_moved_months : Stmt := top 19
abbrev s_whole_months : Stmt := top 20
abbrev s_share_of_days : Stmt := top 21
abbrev s__law_dice : Stmt := top 23
abbrev s__law_roll : Stmt := top 24
abbrev s__law_rounds : Stmt := top 25
abbrev s__law_told : Stmt := top 26
abbrev s__law_long : Stmt := top 27
abbrev s__law_next : Stmt := top 28
abbrev s__law_number : Stmt := top 29
abbrev s__law_span : Stmt := top 30
abbrev s__law_moved : Stmt := top 31
abbrev s__law_plain : Stmt := top 32
abbrev s_law : Stmt := top 33
abbrev N_is_leap : List Str := ["year"]
theorem sc_is_leap : FnScope N_is_leap ["year"] (defScope s_is_leap) := ⟨rfl, rfl, rfl, by decide +kernel, rfl, by decide +kernel, by decide +kernel⟩
abbrev N_days_in_month : List Str := ["year", "month"]
theorem sc_days_in_month : FnScope N_days_in_month ["year", "month"] (defScope s_days_in_month) := ⟨rfl, rfl, rfl, by decide +kernel, rfl, by decide +kernel, by decide +kernel⟩
abbrev N_day_of : List Str := ["year", "month", "day", "found", "one"]
theorem sc_day_of : FnScope N_day_of ["year", "month", "day"] (defScope s_day_of) := ⟨rfl, rfl, rfl, by decide +kernel, rfl, by decide +kernel, by decide +kernel⟩
abbrev N_date_of : List Str := ["number", "year", "left", "month"]
theorem sc_date_of : FnScope N_date_of ["number"] (defScope s_date_of) := ⟨rfl, rfl, rfl, by decide +kernel, rfl, by decide +kernel, by decide +kernel⟩
abbrev N_week_day : List Str := ["number"]
theorem sc_week_day : FnScope N_week_day ["number"] (defScope s_week_day) := ⟨rfl, rfl, rfl, by decide +kernel, rfl, by decide +kernel, by decide +kernel⟩
abbrev N_two_figures : List Str := ["number"]
theorem sc_two_figures : FnScope N_two_figures ["number"] (defScope s_two_figures) := ⟨rfl, rfl, rfl, by decide +kernel, rfl, by decide +kernel, by decide +kernel⟩
abbrev N_told_date : List Str := ["number", "year", "month", "day"]
theorem sc_told_date : FnScope N_told_date ["number"] (defScope s_told_date) := ⟨rfl, rfl, rfl, by decide +kernel, rfl, by decide +kernel, by decide +kernel⟩
abbrev N_read_date : List Str := ["text", "parts", "part"]
theorem sc_read_date : FnScope N_read_date ["text"] (defScope s_read_date) := ⟨rfl, rfl, rfl, by decide +kernel, rfl, by decide +kernel, by decide +kernel⟩
abbrev N_period_of : List Str := ["sort", "number", "anchor", "year", "month", "day", "long", "first", "start", "last"]
theorem sc_period_of : FnScope N_period_of ["sort", "number", "anchor"] (defScope s_period_of) := ⟨rfl, rfl, rfl, by decide +kernel, rfl, by decide +kernel, by decide +kernel⟩
abbrev N_periods_in_year : List Str := ["sort", "year", "anchor", "first", "last", "found", "here", "span"]
theorem sc_periods_in_year : FnScope N_periods_in_year ["sort", "year", "anchor"] (defScope s_periods_in_year) := ⟨rfl, rfl, rfl, by decide +kernel, rfl, by decide +kernel, by decide +kernel⟩
abbrev N_work_days : List Str := ["first", "last", "days", "free", "number"]
theorem sc_work_days : FnScope N_work_days ["first", "last", "days", "free"] (defScope s_work_days) := ⟨rfl, rfl, rfl, by decide +kernel, rfl, by decide +kernel, by decide +kernel⟩
abbrev N_paid_on : List Str := ["last", "lag", "days", "free", "back", "number"]
theorem sc_paid_on : FnScope N_paid_on ["last", "lag", "days", "free"] (defScope s_paid_on) := ⟨rfl, rfl, rfl, by decide +kernel, rfl, by decide +kernel, by decide +kernel⟩
abbrev N_moved_months : List Str := ["number", "months", "year", "month", "day", "place", "goal"]
theorem sc_moved_months : FnScope N_moved_months ["number", "months"] (defScope s_moved_months) := ⟨rfl, rfl, rfl, by decide +kernel, rfl, by decide +kernel, by decide +kernel⟩
abbrev N_whole_months : List Str := ["first", "last", "found"]
theorem sc_whole_months : FnScope N_whole_months ["first", "last"] (defScope s_whole_months) := ⟨rfl, rfl, rfl, by decide +kernel, rfl, by decide +kernel, by decide +kernel⟩
abbrev N_share_of_days : List Str := ["first", "last", "span"]
theorem sc_share_of_days : FnScope N_share_of_days ["first", "last", "span"] (defScope s_share_of_days) := ⟨rfl, rfl, rfl, by decide +kernel, rfl, by decide +kernel, by decide +kernel⟩
abbrev N__law_dice : List Str := ["cell"]
theorem sc__law_dice : FnScope N__law_dice ["cell"] (defScope s__law_dice) := ⟨rfl, rfl, rfl, by decide +kernel, rfl, by decide +kernel, by decide +kernel⟩
abbrev N__law_roll : List Str := ["dice", "many", "found"]
theorem sc__law_roll : FnScope N__law_roll ["dice", "many"] (defScope s__law_roll) := ⟨rfl, rfl, rfl, by decide +kernel, rfl, by decide +kernel, by decide +kernel⟩
abbrev N__law_rounds : List Str := ["script", "most", "cells", "cell"]
theorem sc__law_rounds : FnScope N__law_rounds ["script", "most"] (defScope s__law_rounds) := ⟨rfl, rfl, rfl, by decide +kernel, rfl, by decide +kernel, by decide +kernel⟩
abbrev N__law_long : List Str := ["year", "month"]
theorem sc__law_long : FnScope N__law_long ["year", "month"] (defScope s__law_long) := ⟨rfl, rfl, rfl, by decide +kernel, rfl, by decide +kernel, by decide +kernel⟩
abbrev N__law_next : List Str := ["date", "year", "month", "day"]
theorem sc__law_next : FnScope N__law_next ["date"] (defScope s__law_next) := ⟨rfl, rfl, rfl, by decide +kernel, rfl, by decide +kernel, by decide +kernel⟩
abbrev N__law_number : List Str := ["date", "year", "month", "day", "leaps", "one"]
theorem sc__law_number : FnScope N__law_number ["date"] (defScope s__law_number) := ⟨rfl, rfl, rfl, by decide +kernel, rfl, by decide +kernel, by decide +kernel⟩
abbrev N__law_span : List Str := ["sort", "date", "anchor", "year", "month", "day", "number", "last", "long", "first", "one", "low", "high"]
theorem sc__law_span : FnScope N__law_span ["sort", "date", "anchor"] (defScope s__law_span) := ⟨rfl, rfl, rfl, by decide +kernel, rfl, by decide +kernel, by decide +kernel⟩
abbrev N__law_moved : List Str := ["date", "months", "place", "year", "month"]
theorem sc__law_moved : FnScope N__law_moved ["date", "months"] (defScope s__law_moved) := ⟨rfl, rfl, rfl, by decide +kernel, rfl, by decide +kernel, by decide +kernel⟩
abbrev N__law_plain : List Str := ["told", "bad", "k", "f"]
theorem sc__law_plain : FnScope N__law_plain [] (defScope s__law_plain) := ⟨rfl, rfl, rfl, by decide +kernel, rfl, by decide +kernel, by decide +kernel⟩
abbrev N_law : List Str := ["script", "sorts", "dice", "date", "anchor", "sort", "start", "here", "days", "k", "number", "text", "span", "year", "spans", "first", "last", "week", "free", "long", "day", "work", "lag", "able", "told", "months", "more", "whole", "count", "low", "high", "one"]
theorem sc_law : FnScope N_law ["script"] (defScope s_law) := ⟨rfl, rfl, rfl, by decide +kernel, rfl, by decide +kernel, by decide +kernel⟩
def k_LAST_YEAR : D := (.int 2199)
def k_MONTH_DAYS : D := (.tup [(.int 31), (.int 28), (.int 31), (.int 30), (.int 31), (.int 30), (.int 31), (.int 31), (.int 30), (.int 31), (.int 30), (.int 31)])
def k_SORTS_OF_PERIOD : D := (.tup [(.str "week"), (.str "two weeks"), (.str "half month"), (.str "month")])
abbrev told_ret : Str := "PeriodError"
abbrev told_en : Str := "PeriodError"
structure Facts (g : Gb) : Prop where
  n_abs : g.mg "abs" = none
  n_any : g.mg "any" = none
  n_enumerate : g.mg "enumerate" = none
  n_int : g.mg "int" = none
  n_len : g.mg "len" = none
  n_list : g.mg "list" = none
  n_max : g.mg "max" = none
  n_min : g.mg "min" = none
  n_range : g.mg "range" = none
  n_str : g.mg "str" = none
  n_sum : g.mg "sum" = none
  n_tuple : g.mg "tuple" = none
  c_LAST_YEAR : GC g "LAST_YEAR" k_LAST_YEAR
  c_MONTH_DAYS : GC g "MONTH_DAYS" k_MONTH_DAYS
  c_SORTS_OF_PERIOD : GC g "SORTS_OF_PERIOD" k_SORTS_OF_PERIOD
  x_PeriodError : EC g "PeriodError"
  f_is_leap : ∃ f c fd, FunC g.K "is_leap" "is_leap" s_is_leap f c fd ∧ g.mg "is_leap" = some (.ref f)
  f_days_in_month : ∃ f c fd, FunC g.K "days_in_month" "days_in_month" s_days_in_month f c fd ∧ g.mg "days_in_month" = some (.ref f)
  f_day_of : ∃ f c fd, FunC g.K "day_of" "day_of" s_day_of f c fd ∧ g.mg "day_of" = some (.ref f)
  f_date_of : ∃ f c fd, FunC g.K "date_of" "date_of" s_date_of f c fd ∧ g.mg "date_of" = some (.ref f)
  f_week_day : ∃ f c fd, FunC g.K "week_day" "week_day" s_week_day f c fd ∧ g.mg "week_day" = some (.ref f)
  f_two_figures : ∃ f c fd, FunC g.K "two_figures" "two_figures" s_two_figures f c fd ∧ g.mg "two_figures" = some (.ref f)
  f_told_date : ∃ f c fd, FunC g.K "told_date" "told_date" s_told_date f c fd ∧ g.mg "told_date" = some (.ref f)
  f_read_date : ∃ f c fd, FunC g.K "read_date" "read_date" s_read_date f c fd ∧ g.mg "read_date" = some (.ref f) ∧ ∃ P, TabB g.base g.mg c P ∧ (P, (("read_date.<locals>." : Str) ++ "<genexpr>")) ∈ g.T ∧ ∀ p ∈ g.T, p.1 = P → p.2 = (("read_date.<locals>." : Str) ++ "<genexpr>")
  f_period_of : ∃ f c fd, FunC g.K "period_of" "period_of" s_period_of f c fd ∧ g.mg "period_of" = some (.ref f)
  f_periods_in_year : ∃ f c fd, FunC g.K "periods_in_year" "periods_in_year" s_periods_in_year f c fd ∧ g.mg "periods_in_year" = some (.ref f)
  f_work_days : ∃ f c fd, FunC g.K "work_days" "work_days" s_work_days f c fd ∧ g.mg "work_days" = some (.ref f) ∧ ∃ P, TabB g.base g.mg c P ∧ (P, (("work_days.<locals>." : Str) ++ "<genexpr>")) ∈ g.T ∧ ∀ p ∈ g.T, p.1 = P → p.2 = (("work_days.<locals>." : Str) ++ "<genexpr>")
  f_paid_on : ∃ f c fd, FunC g.K "paid_on" "paid_on" s_paid_on f c fd ∧ g.mg "paid_on" = some (.ref f)
  f_moved_months : ∃ f c fd, FunC g.K "moved_months" "moved_months" s_moved_months f c fd ∧ g.mg "moved_months" = some (.ref f)
  f_whole_months : ∃ f c fd, FunC g.K "whole_months" "whole_months" s_whole_months f c fd ∧ g.mg "whole_months" = some (.ref f)
  f_share_of_days : ∃ f c fd, FunC g.K "share_of_days" "share_of_days" s_share_of_days f c fd ∧ g.mg "share_of_days" = some (.ref f)
  f__law_dice : ∃ f c fd, FunC g.K "_law_dice" "_law_dice" s__law_dice f c fd ∧ g.mg "_law_dice" = some (.ref f)
  f__law_roll : ∃ f c fd, FunC g.K "_law_roll" "_law_roll" s__law_roll f c fd ∧ g.mg "_law_roll" = some (.ref f)
  f__law_rounds : ∃ f c fd, FunC g.K "_law_rounds" "_law_rounds" s__law_rounds f c fd ∧ g.mg "_law_rounds" = some (.ref f)
  f__law_long : ∃ f c fd, FunC g.K "_law_long" "_law_long" s__law_long f c fd ∧ g.mg "_law_long" = some (.ref f)
  f__law_next : ∃ f c fd, FunC g.K "_law_next" "_law_next" s__law_next f c fd ∧ g.mg "_law_next" = some (.ref f)
  f__law_number : ∃ f c fd, FunC g.K "_law_number" "_law_number" s__law_number f c fd ∧ g.mg "_law_number" = some (.ref f)
  f__law_span : ∃ f c fd, FunC g.K "_law_span" "_law_span" s__law_span f c fd ∧ g.mg "_law_span" = some (.ref f)
  f__law_moved : ∃ f c fd, FunC g.K "_law_moved" "_law_moved" s__law_moved f c fd ∧ g.mg "_law_moved" = some (.ref f)
  f__law_plain : ∃ f c fd, FunC g.K "_law_plain" "_law_plain" s__law_plain f c fd ∧ g.mg "_law_plain" = some (.ref f) ∧ ∃ P, TabB g.base g.mg c P ∧ (P, (("_law_plain.<locals>." : Str) ++ "<lambda>")) ∈ g.T ∧ ∀ p ∈ g.T, p.1 = P → p.2 = (("_law_plain.<locals>." : Str) ++ "<lambda>")
  f_law : ∃ f c fd, FunC g.K "law" "law" s_law f c fd ∧ g.mg "law" = some (.ref f) ∧ ∃ P, TabB g.base g.mg c P ∧ (P, (("law.<locals>." : Str) ++ "<lambda>")) ∈ g.T ∧ ∀ p ∈ g.T, p.1 = P → p.2 = (("law.<locals>." : Str) ++ "<lambda>")
  told : ∃ ga ca fd, ToldF g "_law_told" told_en told_ret "what" s__law_told ga ca fd ["what"] ⟨120, 15, 120, 19⟩ ⟨120, 15, 120, 21⟩ ⟨120, 8, 120, 21⟩ ⟨121, 11, 121, 22⟩ ⟨122, 15, 122, 28⟩ ⟨122, 8, 122, 28⟩ ⟨121, 4, 122, 28⟩ ⟨119, 4, 122, 28⟩ 0
def B_is_leap : Cs := cRet (bAnd (bBin dEq (bBin dMod (bVar 0) (bCon (.int 4))) (bCon (.int 0))) (bOr (bBin dNe (bBin dMod (bVar 0) (bCon (.int 100))) (bCon (.int 0))) (bBin dEq (bBin dMod (bVar 0) (bCon (.int 400))) (bCon (.int 0)))))
def M_is_leap : FnS := fnS 1 B_is_leap
theorem ok_is_leap {g : Gb} (F : Facts g) : Fn g 1 "is_leap" 1 M_is_leap := by
  obtain ⟨f, c, fd, h1, h2⟩ := F.f_is_leap
  exact fn_ok (k := 0) (fun _ _ _ _ _ => False) h1 h2 sc_is_leap (h1.binds fun _ _ _ _ _ _ us hl => match us, hl with | [_], _ => rfl) fun A outer s H E av =>
    dss_one (ds_ret (de_and (de_cmp dop_eq (de_bin dop_mod (de_var 0) (de_int)) (de_int)) (de_one (de_or (de_cmp dop_ne (de_bin dop_mod (de_var 0) (de_int)) (de_int)) (de_one (de_cmp dop_eq (de_bin dop_mod (de_var 0) (de_int)) (de_int)))))))
def B_days_in_month : Cs := cSeq (cIf (bOrT (bNotT (bTst (bChain dLe dLe (bCon (.int 1)) (bVar 1) (bCon (.int 12))))) (bNotT (bTst (bChain dLe dLe (bCon (.int 2000)) (bVar 0) (bCon k_LAST_YEAR))))) (cRaise "PeriodError") (cNop)) (cRet (bIf (bAndT (bTst (bBin dEq (bVar 1) (bCon (.int 2)))) (bTru (bCallP M_is_leap (bCons (bVar 0) (bNil))))) (bCon (.int 29)) (bBin dIx (bCon k_MONTH_DAYS) (bBin dSub (bVar 1) (bCon (.int 1))))))
def M_days_in_month : FnS := fnS 2 B_days_in_month
theorem ok_days_in_month {g : Gb} (F : Facts g) : Fn g 2 "days_in_month" 2 M_days_in_month := by
  obtain ⟨f, c, fd, h1, h2⟩ := F.f_days_in_month
  exact fn_ok (k := 1) (fun _ _ _ _ _ => False) h1 h2 sc_days_in_month (h1.binds fun _ _ _ _ _ _ us hl => match us, hl with | [_, _], _ => rfl) fun A outer s H E av =>
    dss_cons (ds_if (dt_w (dw_or (dt_not (dt_chain dop_le dop_le (de_int) (de_var 1) (de_int))) (dw_or1 (dt_not (dt_chain dop_le dop_le (de_int) (de_var 0) (de_glob F.c_LAST_YEAR)))))) (dss_one (ds_raise F.x_PeriodError)) (dss_nil)) (dss_one (ds_ret (de_if (dt_w (dw_and (dt_cmp dop_eq (de_var 1) (de_int)) (dw_and1 (dt_tru (de_callP (ok_is_leap F) (by decide) (ha := da_cons (de_var 0) (da_nil)) (hlen := (bCons_len bNil_len))))))) (de_int) (de_ix (de_glob F.c_MONTH_DAYS) (de_bin dop_sub (de_var 1) (de_int))))))
def B_day_of : Cs := cSeq (cIf (bNotT (bTst (bChain dLe dLe (bCon (.int 1)) (bVar 2) (bCallP M_days_in_month (bCons (bVar 0) (bCons (bVar 1) (bNil))))))) (cRaise "PeriodError") (cNop)) (cSeq (cSet 3 (bBin dSub (bVar 2) (bCon (.int 1)))) (cSeq (cFor (bRng2 (bCons (bCon (.int 2000)) (bCons (bVar 0) (bNil)))) (tgName 4) (cAug 3 dIAdd (bIf (bTru (bCallP M_is_leap (bCons (bVar 4) (bNil)))) (bCon (.int 366)) (bCon (.int 365))))) (cSeq (cFor (bRng2 (bCons (bCon (.int 1)) (bCons (bVar 1) (bNil)))) (tgName 4) (cAug 3 dIAdd (bCallP M_days_in_month (bCons (bVar 0) (bCons (bVar 4) (bNil)))))) (cRet (bVar 3)))))
def M_day_of : FnS := fnS 5 B_day_of
theorem ok_day_of {g : Gb} (F : Facts g) : Fn g 3 "day_of" 3 M_day_of := by
  obtain ⟨f, c, fd, h1, h2⟩ := F.f_day_of
  exact fn_ok (k := 2) (fun _ _ _ _ _ => False) h1 h2 sc_day_of (h1.binds fun _ _ _ _ _ _ us hl => match us, hl with | [_, _, _], _ => rfl) fun A outer s H E av =>
    dss_cons (ds_if (dt_not (dt_chain dop_le dop_le (de_int) (de_var 2) (de_callP (ok_days_in_month F) (by decide) (ha := da_cons (de_var 0) (da_cons (de_var 1) (da_nil))) (hlen := (bCons_len (bCons_len bNil_len)))))) (dss_one (ds_raise F.x_PeriodError)) (dss_nil)) (dss_cons (ds_set 3 (de_bin dop_sub (de_var 2) (de_int))) (dss_cons (ds_for (vs := [4]) (di_rng2 F.n_range (da_cons (de_int) (da_cons (de_var 0) (da_nil)))) (dg_name 4) (dss_one (ds_aug 3 dip_add (de_if (dt_tru (de_callP (ok_is_leap F) (by decide) (ha := da_cons (de_var 4) (da_nil)) (hlen := (bCons_len bNil_len)))) (de_int) (de_int))))) (dss_cons (ds_for (vs := [4]) (di_rng2 F.n_range (da_cons (de_int) (da_cons (de_var 1) (da_nil)))) (dg_name 4) (dss_one (ds_aug 3 dip_add (de_callP (ok_days_in_month F) (by decide) (ha := da_cons (de_var 0) (da_cons (de_var 4) (da_nil))) (hlen := (bCons_len (bCons_len bNil_len))))))) (dss_one (ds_ret (de_var 3))))))
def B_date_of : Cs := cSeq (cIf (bTst (bBin dLt (bVar 0) (bCon (.int 0)))) (cRaise "PeriodError") (cNop)) (cSeq (cPar2 1 2 (bCons (bCon (.int 2000)) (bCons (bVar 0) (bNil)))) (cSeq (cWhile 1000 (bTst (bBin dGe (bVar 2) (bIf (bTru (bCallP M_is_leap (bCons (bVar 1) (bNil)))) (bCon (.int 366)) (bCon (.int 365))))) (cSeq (cAug 2 dISub (bIf (bTru (bCallP M_is_leap (bCons (bVar 1) (bNil)))) (bCon (.int 366)) (bCon (.int 365)))) (cAug 1 dIAdd (bCon (.int 1))))) (cSeq (cSet 3 (bCon (.int 1))) (cSeq (cWhile 1000 (bTst (bBin dGe (bVar 2) (bCallP M_days_in_month (bCons (bVar 1) (bCons (bVar 3) (bNil)))))) (cSeq (cAug 2 dISub (bCallP M_days_in_month (bCons (bVar 1) (bCons (bVar 3) (bNil))))) (cAug 3 dIAdd (bCon (.int 1))))) (cRet (bTup (bCons (bVar 1) (bCons (bVar 3) (bCons (bBin dAdd (bVar 2) (bCon (.int 1))) (bNil))))))))))
def M_date_of : FnS := fnS 4 B_date_of
theorem ok_date_of {g : Gb} (F : Facts g) : Fn g 3 "date_of" 1 M_date_of := by
  obtain ⟨f, c, fd, h1, h2⟩ := F.f_date_of
  exact fn_ok (k := 2) (fun _ _ _ _ _ => False) h1 h2 sc_date_of (h1.binds fun _ _ _ _ _ _ us hl => match us, hl with | [_], _ => rfl) fun A outer s H E av =>
    dss_cons (ds_if (dt_cmp dop_lt (de_var 0) (de_int)) (dss_one (ds_raise F.x_PeriodError)) (dss_nil)) (dss_cons (ds_par2 1 2 (da_cons (de_int) (da_cons (de_var 0) (da_nil)))) (dss_cons (ds_while 1000 (dt_cmp dop_ge (de_var 2) (de_if (dt_tru (de_callP (ok_is_leap F) (by decide) (ha := da_cons (de_var 1) (da_nil)) (hlen := (bCons_len bNil_len)))) (de_int) (de_int))) (dss_cons (ds_aug 2 dip_sub (de_if (dt_tru (de_callP (ok_is_leap F) (by decide) (ha := da_cons (de_var 1) (da_nil)) (hlen := (bCons_len bNil_len)))) (de_int) (de_int))) (dss_one (ds_aug 1 dip_add (de_int))))) (dss_cons (ds_set 3 (de_int)) (dss_cons (ds_while 1000 (dt_cmp dop_ge (de_var 2) (de_callP (ok_days_in_month F) (by decide) (ha := da_cons (de_var 1) (da_cons (de_var 3) (da_nil))) (hlen := (bCons_len (bCons_len bNil_len))))) (dss_cons (ds_aug 2 dip_sub (de_callP (ok_days_in_month F) (by decide) (ha := da_cons (de_var 1) (da_cons (de_var 3) (da_nil))) (hlen := (bCons_len (bCons_len bNil_len))))) (dss_one (ds_aug 3 dip_add (de_int))))) (dss_one (ds_ret (de_tup (da_cons (de_var 1) (da_cons (de_var 3) (da_cons (de_bin dop_add (de_var 2) (de_int)) (da_nil)))))))))))
def B_week_day : Cs := cRet (bBin dMod (bBin dAdd (bVar 0) (bCon (.int 5))) (bCon (.int 7)))
def M_week_day : FnS := fnS 1 B_week_day
theorem ok_week_day {g : Gb} (F : Facts g) : Fn g 1 "week_day" 1 M_week_day := by
  obtain ⟨f, c, fd, h1, h2⟩ := F.f_week_day
  exact fn_ok (k := 0) (fun _ _ _ _ _ => False) h1 h2 sc_week_day (h1.binds fun _ _ _ _ _ _ us hl => match us, hl with | [_], _ => rfl) fun A outer s H E av =>
    dss_one (ds_ret (de_bin dop_mod (de_bin dop_add (de_var 0) (de_int)) (de_int)))
def B_two_figures : Cs := cRet (bJs [bFmt (bBin dDiv (bVar 0) (bCon (.int 10))), bFmt (bBin dMod (bVar 0) (bCon (.int 10)))] Str.empty)
def M_two_figures : FnS := fnS 1 B_two_figures
theorem ok_two_figures {g : Gb} (F : Facts g) : Fn g 1 "two_figures" 1 M_two_figures := by
  obtain ⟨f, c, fd, h1, h2⟩ := F.f_two_figures
  exact fn_ok (k := 0) (fun _ _ _ _ _ => False) h1 h2 sc_two_figures (h1.binds fun _ _ _ _ _ _ us hl => match us, hl with | [_], _ => rfl) fun A outer s H E av =>
    dss_one (ds_ret (de_joined (dj_cons (de_fmt (de_bin dop_div (de_var 0) (de_int))) (dj_cons (de_fmt (de_bin dop_mod (de_var 0) (de_int))) (dj_nil)))))
def B_told_date : Cs := cSeq (cAsg (bCallP M_date_of (bCons (bVar 0) (bNil))) (tgTup [tgName 1, tgName 2, tgName 3])) (cRet (bBin dAdd (bBin dAdd (bBin dAdd (bJs [bFmt (bVar 1), bCon (.str "-")] Str.empty) (bCallP M_two_figures (bCons (bVar 2) (bNil)))) (bCon (.str "-"))) (bCallP M_two_figures (bCons (bVar 3) (bNil)))))
def M_told_date : FnS := fnS 4 B_told_date
theorem ok_told_date {g : Gb} (F : Facts g) : Fn g 4 "told_date" 1 M_told_date := by
  obtain ⟨f, c, fd, h1, h2⟩ := F.f_told_date
  exact fn_ok (k := 3) (fun _ _ _ _ _ => False) h1 h2 sc_told_date (h1.binds fun _ _ _ _ _ _ us hl => match us, hl with | [_], _ => rfl) fun A outer s H E av =>
    dss_cons (ds_asg (vs := [1, 2, 3]) (de_callP (ok_date_of F) (by decide) (ha := da_cons (de_var 0) (da_nil)) (hlen := (bCons_len bNil_len))) (dg_tup (dgs_cons (dg_name 1) (dgs_cons (dg_name 2) (dgs_cons (dg_name 3) (dgs_nil)))))) (dss_one (ds_ret (de_bin dop_add (de_bin dop_add (de_bin dop_add (de_joined (dj_cons (de_fmt (de_var 1)) (dj_cons (de_str) (dj_nil)))) (de_callP (ok_two_figures F) (by decide) (ha := da_cons (de_var 2) (da_nil)) (hlen := (bCons_len bNil_len)))) (de_str)) (de_callP (ok_two_figures F) (by decide) (ha := da_cons (de_var 3) (da_nil)) (hlen := (bCons_len bNil_len))))))
def B_read_date : Cs := cSeq (cSet 1 (bM1 dSplit (bVar 0) (bCon (.str "-")))) (cSeq (cIf (bOrT (bTst (bBin dNe (bComp [2] (bItems (bVar 1)) (tgName 2) (bYes) (bFn dLen (bCons (bVar 2) (bNil)))) (bLst (bCons (bCon (.int 4)) (bCons (bCon (.int 2)) (bCons (bCon (.int 2)) (bNil))))))) (bTru (bAnyG (bM1 dJoin (bCon (.str "")) (bVar 1)) (qBin dNinT (qVar) (qCon (.str "0123456789")))))) (cRaise "PeriodError") (cNop)) (cRet (bCallP M_day_of (bCons (bFn dInt (bCons (bBin dIx (bVar 1) (bCon (.int 0))) (bNil))) (bCons (bFn dInt (bCons (bBin dIx (bVar 1) (bCon (.int 1))) (bNil))) (bCons (bFn dInt (bCons (bBin dIx (bVar 1) (bCon (.int 2))) (bNil))) (bNil)))))))
def M_read_date : FnS := fnS 3 B_read_date
theorem ok_read_date {g : Gb} (F : Facts g) : Fn g 4 "read_date" 1 M_read_date := by
  obtain ⟨f, c, fd, h1, h2, PP, TB, hmT, hu⟩ := F.f_read_date
  exact fn_ok (k := 3) (fun _ _ _ _ _ => False) h1 h2 sc_read_date (h1.binds fun _ _ _ _ _ _ us hl => match us, hl with | [_], _ => rfl) fun A outer s H E av =>
    dss_cons (ds_set 1 (de_split (de_var 0) (de_str))) (dss_cons (ds_if (dt_w (dw_or (dt_cmp dop_ne (de_comp [("part", 2)] (di_sq (de_var 1)) (by change blkC N_read_date (defScope s_read_date) _ _ = true; decide +kernel) (fun Λ' h1 s H C cl fp => dg_name 2) (fun Λ' h1 s H C cl fp => dts_nil) (fun Λ' h1 s H C cl fp => de_bfn boot_len dc_len F.n_len (da_cons (de_var 2) (da_nil)))) (de_lst (da_cons (de_int) (da_cons (de_int) (da_cons (de_int) (da_nil)))))) (dw_or1 (dt_tru (de_anyG F.n_any TB hmT hu (by decide +kernel) (de_join (de_str) (de_var 1)) (eq_cmp fop_nin (eq_var) (eq_str))))))) (dss_one (ds_raise F.x_PeriodError)) (dss_nil)) (dss_one (ds_ret (de_callP (ok_day_of F) (by decide) (ha := da_cons (de_tfn boot_int dc_int F.n_int (da_cons (de_ix (de_var 1) (de_int)) (da_nil))) (da_cons (de_tfn boot_int dc_int F.n_int (da_cons (de_ix (de_var 1) (de_int)) (da_nil))) (da_cons (de_tfn boot_int dc_int F.n_int (da_cons (de_ix (de_var 1) (de_int)) (da_nil))) (da_nil)))) (hlen := (bCons_len (bCons_len (bCons_len bNil_len))))))))
def B_period_of : Cs := cSeq (cIf (bTst (bBin dNin (bVar 0) (bCon k_SORTS_OF_PERIOD))) (cRaise "PeriodError") (cNop)) (cSeq (cAsg (bCallP M_date_of (bCons (bVar 1) (bNil))) (tgTup [tgName 3, tgName 4, tgName 5])) (cSeq (cIf (bTst (bBin dIn (bVar 0) (bTup (bCons (bCon (.str "week")) (bCons (bCon (.str "two weeks")) (bNil)))))) (cSeq (cSet 6 (bIf (bTst (bBin dEq (bVar 0) (bCon (.str "week")))) (bCon (.int 7)) (bCon (.int 14)))) (cSeq (cSet 7 (bBin dSub (bVar 1) (bBin dMod (bBin dSub (bVar 1) (bVar 2)) (bVar 6)))) (cRet (bTup (bCons (bVar 7) (bCons (bBin dSub (bBin dAdd (bVar 7) (bVar 6)) (bCon (.int 1))) (bNil))))))) (cNop)) (cSeq (cPar2 8 9 (bCons (bBin dAdd (bBin dSub (bVar 1) (bVar 5)) (bCon (.int 1))) (bCons (bCallP M_days_in_month (bCons (bVar 3) (bCons (bVar 4) (bNil)))) (bNil)))) (cSeq (cIf (bTst (bBin dEq (bVar 0) (bCon (.str "month")))) (cRet (bTup (bCons (bVar 8) (bCons (bBin dSub (bBin dAdd (bVar 8) (bVar 9)) (bCon (.int 1))) (bNil))))) (cNop)) (cRet (bIf (bTst (bBin dLe (bVar 5) (bCon (.int 15)))) (bTup (bCons (bVar 8) (bCons (bBin dAdd (bVar 8) (bCon (.int 14))) (bNil)))) (bTup (bCons (bBin dAdd (bVar 8) (bCon (.int 15))) (bCons (bBin dSub (bBin dAdd (bVar 8) (bVar 9)) (bCon (.int 1))) (bNil))))))))))
def M_period_of : FnS := fnS 10 B_period_of
theorem ok_period_of {g : Gb} (F : Facts g) : Fn g 4 "period_of" 3 M_period_of := by
  obtain ⟨f, c, fd, h1, h2⟩ := F.f_period_of
  exact fn_ok (k := 3) (fun _ _ _ _ _ => False) h1 h2 sc_period_of (h1.binds fun _ _ _ _ _ _ us hl => match us, hl with | [_, _, _], _ => rfl) fun A outer s H E av =>
    dss_cons (ds_if (dt_cmp dop_nin (de_var 0) (de_glob F.c_SORTS_OF_PERIOD)) (dss_one (ds_raise F.x_PeriodError)) (dss_nil)) (dss_cons (ds_asg (vs := [3, 4, 5]) (de_callP (ok_date_of F) (by decide) (ha := da_cons (de_var 1) (da_nil)) (hlen := (bCons_len bNil_len))) (dg_tup (dgs_cons (dg_name 3) (dgs_cons (dg_name 4) (dgs_cons (dg_name 5) (dgs_nil)))))) (dss_cons (ds_if (dt_cmp dop_in (de_var 0) (de_tup (da_cons (de_str) (da_cons (de_str) (da_nil))))) (dss_cons (ds_set 6 (de_if (dt_cmp dop_eq (de_var 0) (de_str)) (de_int) (de_int))) (dss_cons (ds_set 7 (de_bin dop_sub (de_var 1) (de_bin dop_mod (de_bin dop_sub (de_var 1) (de_var 2)) (de_var 6)))) (dss_one (ds_ret (de_tup (da_cons (de_var 7) (da_cons (de_bin dop_sub (de_bin dop_add (de_var 7) (de_var 6)) (de_int)) (da_nil)))))))) (dss_nil)) (dss_cons (ds_par2 8 9 (da_cons (de_bin dop_add (de_bin dop_sub (de_var 1) (de_var 5)) (de_int)) (da_cons (de_callP (ok_days_in_month F) (by decide) (ha := da_cons (de_var 3) (da_cons (de_var 4) (da_nil))) (hlen := (bCons_len (bCons_len bNil_len)))) (da_nil)))) (dss_cons (ds_if (dt_cmp dop_eq (de_var 0) (de_str)) (dss_one (ds_ret (de_tup (da_cons (de_var 8) (da_cons (de_bin dop_sub (de_bin dop_add (de_var 8) (de_var 9)) (de_int)) (da_nil)))))) (dss_nil)) (dss_one (ds_ret (de_if (dt_cmp dop_le (de_var 5) (de_int)) (de_tup (da_cons (de_var 8) (da_cons (de_bin dop_add (de_var 8) (de_int)) (da_nil)))) (de_tup (da_cons (de_bin dop_add (de_var 8) (de_int)) (da_cons (de_bin dop_sub (de_bin dop_add (de_var 8) (de_var 9)) (de_int)) (da_nil)))))))))))
def B_periods_in_year : Cs := cSeq (cPar2 3 4 (bCons (bCallP M_day_of (bCons (bVar 1) (bCons (bCon (.int 1)) (bCons (bCon (.int 1)) (bNil))))) (bCons (bCallP M_day_of (bCons (bVar 1) (bCons (bCon (.int 12)) (bCons (bCon (.int 31)) (bNil))))) (bNil)))) (cSeq (cPar2 5 6 (bCons (bLstM (bNil)) (bCons (bVar 3) (bNil)))) (cSeq (cWhile 1000 (bTst (bBin dLe (bVar 6) (bVar 4))) (cSeq (cSet 7 (bCallP M_period_of (bCons (bVar 0) (bCons (bVar 6) (bCons (bVar 2) (bNil)))))) (cSeq (cAug 5 dIAdd (bIf (bTst (bChain dLe dLe (bVar 3) (bBin dIx (bVar 7) (bCon (.int 1))) (bVar 4))) (bLst (bCons (bVar 7) (bNil))) (bLst (bNil)))) (cSet 6 (bBin dAdd (bBin dIx (bVar 7) (bCon (.int 1))) (bCon (.int 1))))))) (cRet (bFn dTuple (bCons (bVar 5) (bNil))))))
def M_periods_in_year : FnS := fnS 8 B_periods_in_year
theorem ok_periods_in_year {g : Gb} (F : Facts g) : Fn g 5 "periods_in_year" 3 M_periods_in_year := by
  obtain ⟨f, c, fd, h1, h2⟩ := F.f_periods_in_year
  exact fn_ok (k := 4) (fun _ _ _ _ _ => False) h1 h2 sc_periods_in_year (h1.binds fun _ _ _ _ _ _ us hl => match us, hl with | [_, _, _], _ => rfl) fun A outer s H E av =>
    dss_cons (ds_par2 3 4 (da_cons (de_callP (ok_day_of F) (by decide) (ha := da_cons (de_var 1) (da_cons (de_int) (da_cons (de_int) (da_nil)))) (hlen := (bCons_len (bCons_len (bCons_len bNil_len))))) (da_cons (de_callP (ok_day_of F) (by decide) (ha := da_cons (de_var 1) (da_cons (de_int) (da_cons (de_int) (da_nil)))) (hlen := (bCons_len (bCons_len (bCons_len bNil_len))))) (da_nil)))) (dss_cons (ds_par2 5 6 (da_cons (de_lstM (da_nil)) (da_cons (de_var 3) (da_nil)))) (dss_cons (ds_while 1000 (dt_cmp dop_le (de_var 6) (de_var 4)) (dss_cons (ds_set 7 (de_callP (ok_period_of F) (by decide) (ha := da_cons (de_var 0) (da_cons (de_var 6) (da_cons (de_var 2) (da_nil)))) (hlen := (bCons_len (bCons_len (bCons_len bNil_len)))))) (dss_cons (ds_aug 5 dip_add (de_if (dt_chain dop_le dop_le (de_var 3) (de_ix (de_var 7) (de_int)) (de_var 4)) (de_lst (da_cons (de_var 7) (da_nil))) (de_lst (da_nil)))) (dss_one (ds_set 6 (de_bin dop_add (de_ix (de_var 7) (de_int)) (de_int))))))) (dss_one (ds_ret (de_tfn boot_tuple dc_tuple F.n_tuple (da_cons (de_var 5) (da_nil)))))))
def B_work_days : Cs := cSeq (cIf (bOrT (bTst (bBin dLt (bVar 1) (bVar 0))) (bTru (bAnyG (bVar 2) (qNot (qChain dLe dLe (qCon (.int 0)) (qVar) (qCon (.int 6))))))) (cRaise "PeriodError") (cNop)) (cRet (bFn dLen (bCons (bComp [4] (bRng2 (bCons (bVar 0) (bCons (bBin dAdd (bVar 1) (bCon (.int 1))) (bNil)))) (tgName 4) (bAndT (bTst (bBin dIn (bCallP M_week_day (bCons (bVar 4) (bNil))) (bVar 2))) (bTst (bBin dNin (bVar 4) (bVar 3)))) (bCon (.int 1))) (bNil))))
def M_work_days : FnS := fnS 5 B_work_days
theorem ok_work_days {g : Gb} (F : Facts g) : Fn g 2 "work_days" 4 M_work_days := by
  obtain ⟨f, c, fd, h1, h2, PP, TB, hmT, hu⟩ := F.f_work_days
  exact fn_ok (k := 1) (fun _ _ _ _ _ => False) h1 h2 sc_work_days (h1.binds fun _ _ _ _ _ _ us hl => match us, hl with | [_, _, _, _], _ => rfl) fun A outer s H E av =>
    dss_cons (ds_if (dt_w (dw_or (dt_cmp dop_lt (de_var 1) (de_var 0)) (dw_or1 (dt_tru (de_anyG F.n_any TB hmT hu (by decide +kernel) (de_var 2) (eq_not (eq_chain fop_le fop_le (eq_int) (eq_var) (eq_int)))))))) (dss_one (ds_raise F.x_PeriodError)) (dss_nil)) (dss_one (ds_ret (de_bfn boot_len dc_len F.n_len (da_cons (de_comp [("number", 4)] (di_rng2 F.n_range (da_cons (de_var 0) (da_cons (de_bin dop_add (de_var 1) (de_int)) (da_nil)))) (by change blkC N_work_days (defScope s_work_days) _ _ = true; decide +kernel) (fun Λ' h2 s H C cl fp => dg_name 4) (fun Λ' h2 s H C cl fp => dts_one (dt_w (dw_and (dt_cmp dop_in (de_callP (ok_week_day F) (by decide) (ha := da_cons (de_var 4) (da_nil)) (hlen := (bCons_len bNil_len))) (de_var 2)) (dw_and1 (dt_cmp dop_nin (de_var 4) (de_var 3)))))) (fun Λ' h2 s H C cl fp => de_int)) (da_nil)))))
def B_paid_on : Cs := cSeq (cIf (bOrT (bTst (bBin dLt (bVar 1) (bCon (.int 0)))) (bTst (bBin dEq (bFn dLen (bCons (bVar 2) (bNil))) (bCon (.int 0))))) (cRaise "PeriodError") (cNop)) (cSeq (cFor (bRng1 (bCons (bCon (.int 60)) (bNil))) (tgName 4) (cSeq (cSet 5 (bBin dSub (bBin dAdd (bVar 0) (bVar 1)) (bVar 4))) (cIf (bAndT (bTst (bBin dIn (bCallP M_week_day (bCons (bVar 5) (bNil))) (bVar 2))) (bTst (bBin dNin (bVar 5) (bVar 3)))) (cRet (bVar 5)) (cNop)))) (cRaise "PeriodError"))
def M_paid_on : FnS := fnS 6 B_paid_on
theorem ok_paid_on {g : Gb} (F : Facts g) : Fn g 2 "paid_on" 4 M_paid_on := by
  obtain ⟨f, c, fd, h1, h2⟩ := F.f_paid_on
  exact fn_ok (k := 1) (fun _ _ _ _ _ => False) h1 h2 sc_paid_on (h1.binds fun _ _ _ _ _ _ us hl => match us, hl with | [_, _, _, _], _ => rfl) fun A outer s H E av =>
    dss_cons (ds_if (dt_w (dw_or (dt_cmp dop_lt (de_var 1) (de_int)) (dw_or1 (dt_cmp dop_eq (de_bfn boot_len dc_len F.n_len (da_cons (de_var 2) (da_nil))) (de_int))))) (dss_one (ds_raise F.x_PeriodError)) (dss_nil)) (dss_cons (ds_for (vs := [4]) (di_rng1 F.n_range (da_cons (de_int) (da_nil))) (dg_name 4) (dss_cons (ds_set 5 (de_bin dop_sub (de_bin dop_add (de_var 0) (de_var 1)) (de_var 4))) (dss_one (ds_if (dt_w (dw_and (dt_cmp dop_in (de_callP (ok_week_day F) (by decide) (ha := da_cons (de_var 5) (da_nil)) (hlen := (bCons_len bNil_len))) (de_var 2)) (dw_and1 (dt_cmp dop_nin (de_var 5) (de_var 3))))) (dss_one (ds_ret (de_var 5))) (dss_nil))))) (dss_one (ds_raise F.x_PeriodError)))
def B_moved_months : Cs := cSeq (cAsg (bCallP M_date_of (bCons (bVar 0) (bNil))) (tgTup [tgName 2, tgName 3, tgName 4])) (cSeq (cSet 5 (bBin dAdd (bBin dSub (bBin dAdd (bBin dMul (bCon (.int 12)) (bVar 2)) (bVar 3)) (bCon (.int 1))) (bVar 1))) (cSeq (cSet 6 (bTup (bCons (bBin dDiv (bVar 5) (bCon (.int 12))) (bCons (bBin dAdd (bBin dMod (bVar 5) (bCon (.int 12))) (bCon (.int 1))) (bNil))))) (cRet (bCallP M_day_of (bCons (bBin dIx (bVar 6) (bCon (.int 0))) (bCons (bBin dIx (bVar 6) (bCon (.int 1))) (bCons (bFn dMin2 (bCons (bVar 4) (bCons (bCallP M_days_in_month (bCons (bBin dIx (bVar 6) (bCon (.int 0))) (bCons (bBin dIx (bVar 6) (bCon (.int 1))) (bNil)))) (bNil)))) (bNil))))))))
def M_moved_months : FnS := fnS 7 B_moved_months
theorem ok_moved_months {g : Gb} (F : Facts g) : Fn g 4 "moved_months" 2 M_moved_months := by
  obtain ⟨f, c, fd, h1, h2⟩ := F.f_moved_months
  exact fn_ok (k := 3) (fun _ _ _ _ _ => False) h1 h2 sc_moved_months (h1.binds fun _ _ _ _ _ _ us hl => match us, hl with | [_, _], _ => rfl) fun A outer s H E av =>
    dss_cons (ds_asg (vs := [2, 3, 4]) (de_callP (ok_date_of F) (by decide) (ha := da_cons (de_var 0) (da_nil)) (hlen := (bCons_len bNil_len))) (dg_tup (dgs_cons (dg_name 2) (dgs_cons (dg_name 3) (dgs_cons (dg_name 4) (dgs_nil)))))) (dss_cons (ds_set 5 (de_bin dop_add (de_bin dop_sub (de_bin dop_add (de_bin dop_mul (de_int) (de_var 2)) (de_var 3)) (de_int)) (de_var 1))) (dss_cons (ds_set 6 (de_tup (da_cons (de_bin dop_div (de_var 5) (de_int)) (da_cons (de_bin dop_add (de_bin dop_mod (de_var 5) (de_int)) (de_int)) (da_nil))))) (dss_one (ds_ret (de_callP (ok_day_of F) (by decide) (ha := da_cons (de_ix (de_var 6) (de_int)) (da_cons (de_ix (de_var 6) (de_int)) (da_cons (de_bfn boot_min dc_min2 F.n_min (da_cons (de_var 4) (da_cons (de_callP (ok_days_in_month F) (by decide) (ha := da_cons (de_ix (de_var 6) (de_int)) (da_cons (de_ix (de_var 6) (de_int)) (da_nil))) (hlen := (bCons_len (bCons_len bNil_len)))) (da_nil)))) (da_nil)))) (hlen := (bCons_len (bCons_len (bCons_len bNil_len)))))))))
def B_whole_months : Cs := cSeq (cIf (bTst (bBin dLt (bVar 1) (bVar 0))) (cRaise "PeriodError") (cNop)) (cSeq (cSet 2 (bCon (.int 0))) (cSeq (cWhile 1000 (bTst (bBin dLe (bCallP M_moved_months (bCons (bVar 0) (bCons (bBin dAdd (bVar 2) (bCon (.int 1))) (bNil)))) (bVar 1))) (cAug 2 dIAdd (bCon (.int 1)))) (cRet (bVar 2))))
def M_whole_months : FnS := fnS 3 B_whole_months
theorem ok_whole_months {g : Gb} (F : Facts g) : Fn g 5 "whole_months" 2 M_whole_months := by
  obtain ⟨f, c, fd, h1, h2⟩ := F.f_whole_months
  exact fn_ok (k := 4) (fun _ _ _ _ _ => False) h1 h2 sc_whole_months (h1.binds fun _ _ _ _ _ _ us hl => match us, hl with | [_, _], _ => rfl) fun A outer s H E av =>
    dss_cons (ds_if (dt_cmp dop_lt (de_var 1) (de_var 0)) (dss_one (ds_raise F.x_PeriodError)) (dss_nil)) (dss_cons (ds_set 2 (de_int)) (dss_cons (ds_while 1000 (dt_cmp dop_le (de_callP (ok_moved_months F) (by decide) (ha := da_cons (de_var 0) (da_cons (de_bin dop_add (de_var 2) (de_int)) (da_nil))) (hlen := (bCons_len (bCons_len bNil_len)))) (de_var 1)) (dss_one (ds_aug 2 dip_add (de_int)))) (dss_one (ds_ret (de_var 2)))))
def B_share_of_days : Cs := cSeq (cIf (bOrT (bTst (bBin dLt (bVar 1) (bVar 0))) (bTst (bBin dLt (bBin dIx (bVar 2) (bCon (.int 1))) (bBin dIx (bVar 2) (bCon (.int 0)))))) (cRaise "PeriodError") (cNop)) (cRet (bTup (bCons (bFn dMax2 (bCons (bCon (.int 0)) (bCons (bBin dAdd (bBin dSub (bFn dMin2 (bCons (bVar 1) (bCons (bBin dIx (bVar 2) (bCon (.int 1))) (bNil)))) (bFn dMax2 (bCons (bVar 0) (bCons (bBin dIx (bVar 2) (bCon (.int 0))) (bNil))))) (bCon (.int 1))) (bNil)))) (bCons (bBin dAdd (bBin dSub (bBin dIx (bVar 2) (bCon (.int 1))) (bBin dIx (bVar 2) (bCon (.int 0)))) (bCon (.int 1))) (bNil)))))
def M_share_of_days : FnS := fnS 3 B_share_of_days
theorem ok_share_of_days {g : Gb} (F : Facts g) : Fn g 1 "share_of_days" 3 M_share_of_days := by
  obtain ⟨f, c, fd, h1, h2⟩ := F.f_share_of_days
  exact fn_ok (k := 0) (fun _ _ _ _ _ => False) h1 h2 sc_share_of_days (h1.binds fun _ _ _ _ _ _ us hl => match us, hl with | [_, _, _], _ => rfl) fun A outer s H E av =>
    dss_cons (ds_if (dt_w (dw_or (dt_cmp dop_lt (de_var 1) (de_var 0)) (dw_or1 (dt_cmp dop_lt (de_ix (de_var 2) (de_int)) (de_ix (de_var 2) (de_int)))))) (dss_one (ds_raise F.x_PeriodError)) (dss_nil)) (dss_one (ds_ret (de_tup (da_cons (de_bfn boot_max dc_max2 F.n_max (da_cons (de_int) (da_cons (de_bin dop_add (de_bin dop_sub (de_bfn boot_min dc_min2 F.n_min (da_cons (de_var 1) (da_cons (de_ix (de_var 2) (de_int)) (da_nil)))) (de_bfn boot_max dc_max2 F.n_max (da_cons (de_var 0) (da_cons (de_ix (de_var 2) (de_int)) (da_nil))))) (de_int)) (da_nil)))) (da_cons (de_bin dop_add (de_bin dop_sub (de_ix (de_var 2) (de_int)) (de_ix (de_var 2) (de_int))) (de_int)) (da_nil))))))
def B__law_dice : Cs := cSeq (cIf (bTst (bChain dLt dLt (bBin dSub (bCon (.int 0)) (bCon (.int 10))) (bVar 0) (bCon (.int 10)))) (cRet (bLstM (bCons (bFn dAbs (bCons (bVar 0) (bNil))) (bCons (bCon (.int 0)) (bCons (bCon (.int 2)) (bNil)))))) (cNop)) (cRet (bLstM (bCons (bVar 0) (bCons (bBin dAdd (bCon (.int 1)) (bBin dMod (bFn dInt (bCons (bVar 0) (bNil))) (bCon (.int 1009)))) (bCons (bFn dInt (bCons (bBin dGe (bVar 0) (bBin dPow (bCon (.int 10)) (bCon (.int 18)))) (bNil))) (bNil))))))
def M__law_dice : FnS := fnS 1 B__law_dice
theorem ok__law_dice {g : Gb} (F : Facts g) : Fn g 1 "_law_dice" 1 M__law_dice := by
  obtain ⟨f, c, fd, h1, h2⟩ := F.f__law_dice
  exact fn_ok (k := 0) (fun _ _ _ _ _ => False) h1 h2 sc__law_dice (h1.binds fun _ _ _ _ _ _ us hl => match us, hl with | [_], _ => rfl) fun A outer s H E av =>
    dss_cons (ds_if (dt_chain dop_lt dop_lt (de_bin dop_sub (de_int) (de_int)) (de_var 0) (de_int)) (dss_one (ds_ret (de_lstM (da_cons (de_bfn boot_abs dc_abs F.n_abs (da_cons (de_var 0) (da_nil))) (da_cons (de_int) (da_cons (de_int) (da_nil))))))) (dss_nil)) (dss_one (ds_ret (de_lstM (da_cons (de_var 0) (da_cons (de_bin dop_add (de_int) (de_bin dop_mod (de_tfn boot_int dc_int F.n_int (da_cons (de_var 0) (da_nil))) (de_int))) (da_cons (de_tfn boot_int dc_int F.n_int (da_cons (de_cmp dop_ge (de_var 0) (de_bin dop_pow (de_int) (de_int))) (da_nil))) (da_nil)))))))
def B__law_roll : Cs := cSeq (cIf (bOrT (bTst (bBin dEq (bBin dIx (bVar 0) (bCon (.int 2))) (bCon (.int 2)))) (bAndT (bTst (bBin dEq (bBin dIx (bVar 0) (bCon (.int 2))) (bCon (.int 1)))) (bTst (bBin dGt (bBin dIx (bVar 0) (bCon (.int 0))) (bCon (.int 0)))))) (cSeq (cSet 2 (bBin dMod (bFn dInt (bCons (bBin dIx (bVar 0) (bCon (.int 0))) (bNil))) (bVar 1))) (cSeq (cAsg (bBin dDiv (bBin dIx (bVar 0) (bCon (.int 0))) (bVar 1)) (tgSub (bVar 0) (bCon (.int 0)))) (cRet (bVar 2)))) (cNop)) (cSeq (cAsg (bCon (.int 0)) (tgSub (bVar 0) (bCon (.int 2)))) (cSeq (cIf (bTst (bBin dGt (bVar 1) (bCon (.int 100000000)))) (cStuck) (cNop)) (cSeq (cAsg (bBin dMod (bFn dInt (bCons (bBin dAdd (bBin dAdd (bBin dMul (bBin dIx (bVar 0) (bCon (.int 0))) (bCon (.int 48271))) (bBin dMul (bBin dIx (bVar 0) (bCon (.int 1))) (bCon (.int 69621)))) (bCon (.int 11))) (bNil))) (bCon (.int 2147483647))) (tgSub (bVar 0) (bCon (.int 0)))) (cSeq (cAsg (bBin dAdd (bBin dIx (bVar 0) (bCon (.int 1))) (bCon (.int 1))) (tgSub (bVar 0) (bCon (.int 1)))) (cRet (bBin dMod (bFn dInt (bCons (bBin dDiv (bBin dIx (bVar 0) (bCon (.int 0))) (bCon (.int 7))) (bNil))) (bVar 1)))))))
def M__law_roll : FnS := fnS 3 B__law_roll
theorem ok__law_roll {g : Gb} (F : Facts g) : Fn g 1 "_law_roll" 2 M__law_roll := by
  obtain ⟨f, c, fd, h1, h2⟩ := F.f__law_roll
  exact fn_ok (k := 0) (fun _ _ _ _ _ => False) h1 h2 sc__law_roll (h1.binds fun _ _ _ _ _ _ us hl => match us, hl with | [_, _], _ => rfl) fun A outer s H E av =>
    dss_cons (ds_if (dt_w (dw_or (dt_cmp dop_eq (de_ix (de_var 0) (de_int)) (de_int)) (dw_or1 (dt_w (dw_and (dt_cmp dop_eq (de_ix (de_var 0) (de_int)) (de_int)) (dw_and1 (dt_cmp dop_gt (de_ix (de_var 0) (de_int)) (de_int)))))))) (dss_cons (ds_set 2 (de_bin dop_mod (de_tfn boot_int dc_int F.n_int (da_cons (de_ix (de_var 0) (de_int)) (da_nil))) (de_var 1))) (dss_cons (ds_asg (vs := []) (de_bin dop_div (de_ix (de_var 0) (de_int)) (de_var 1)) (dg_sub (de_var 0) (de_int) (by intro _; rfl))) (dss_one (ds_ret (de_var 2))))) (dss_nil)) (dss_cons (ds_asg (vs := []) (de_int) (dg_sub (de_var 0) (de_int) (by intro _; rfl))) (dss_cons (ds_if (dt_cmp dop_gt (de_var 1) (de_int)) (dss_one (ds_stuck)) (dss_nil)) (dss_cons (ds_asg (vs := []) (de_bin dop_mod (de_tfn boot_int dc_int F.n_int (da_cons (de_bin dop_add (de_bin dop_add (de_bin dop_mul (de_ix (de_var 0) (de_int)) (de_int)) (de_bin dop_mul (de_ix (de_var 0) (de_int)) (de_int))) (de_int)) (da_nil))) (de_int)) (dg_sub (de_var 0) (de_int) (by intro _; rfl))) (dss_cons (ds_asg (vs := []) (de_bin dop_add (de_ix (de_var 0) (de_int)) (de_int)) (dg_sub (de_var 0) (de_int) (by intro _; rfl))) (dss_one (ds_ret (de_bin dop_mod (de_tfn boot_int dc_int F.n_int (da_cons (de_bin dop_div (de_ix (de_var 0) (de_int)) (de_int)) (da_nil))) (de_var 1))))))))
def B__law_rounds : Cs := cSeq (cSet 2 (bSl (bVar 0) (bNoPart) (bPart (bVar 1)))) (cSeq (cIf (bTst (bBin dEq (bVar 2) (bLst (bNil)))) (cSet 2 (bLst (bCons (bCon (.int 0)) (bNil)))) (cNop)) (cRet (bComp [3] (bItems (bVar 2)) (tgName 3) (bYes) (bCallM M__law_dice (bCons (bVar 3) (bNil))))))
def M__law_rounds : FnS := fnS 4 B__law_rounds
theorem ok__law_rounds {g : Gb} (F : Facts g) : Fn g 2 "_law_rounds" 2 M__law_rounds := by
  obtain ⟨f, c, fd, h1, h2⟩ := F.f__law_rounds
  exact fn_ok (k := 1) (fun _ _ _ _ _ => False) h1 h2 sc__law_rounds (h1.binds fun _ _ _ _ _ _ us hl => match us, hl with | [_, _], _ => rfl) fun A outer s H E av =>
    dss_cons (ds_set 2 (de_sl (de_var 0) (do_none) (do_some (de_var 1)))) (dss_cons (ds_if (dt_cmp dop_eq (de_var 2) (de_lst (da_nil))) (dss_one (ds_set 2 (de_lst (da_cons (de_int) (da_nil))))) (dss_nil)) (dss_one (ds_ret (de_comp [("cell", 3)] (di_sq (de_var 2)) (by change blkC N__law_rounds (defScope s__law_rounds) _ _ = true; decide +kernel) (fun Λ' h3 s H C cl fp => dg_name 3) (fun Λ' h3 s H C cl fp => dts_nil) (fun Λ' h3 s H C cl fp => de_callM (ok__law_dice F) (by decide) (ha := da_cons (de_var 3) (da_nil)) (hlen := (bCons_len bNil_len)))))))
def B__law_long : Cs := cSeq (cIf (bTst (bBin dEq (bVar 1) (bCon (.int 2)))) (cRet (bBin dAdd (bCon (.int 28)) (bFn dInt (bCons (bOr (bBin dEq (bBin dMod (bVar 0) (bCon (.int 400))) (bCon (.int 0))) (bAnd (bBin dEq (bBin dMod (bVar 0) (bCon (.int 4))) (bCon (.int 0))) (bBin dNe (bBin dMod (bVar 0) (bCon (.int 100))) (bCon (.int 0))))) (bNil))))) (cNop)) (cRet (bIf (bTst (bBin dIn (bVar 1) (bLst (bCons (bCon (.int 4)) (bCons (bCon (.int 6)) (bCons (bCon (.int 9)) (bCons (bCon (.int 11)) (bNil)))))))) (bCon (.int 30)) (bCon (.int 31))))
def M__law_long : FnS := fnS 2 B__law_long
theorem ok__law_long {g : Gb} (F : Facts g) : Fn g 1 "_law_long" 2 M__law_long := by
  obtain ⟨f, c, fd, h1, h2⟩ := F.f__law_long
  exact fn_ok (k := 0) (fun _ _ _ _ _ => False) h1 h2 sc__law_long (h1.binds fun _ _ _ _ _ _ us hl => match us, hl with | [_, _], _ => rfl) fun A outer s H E av =>
    dss_cons (ds_if (dt_cmp dop_eq (de_var 1) (de_int)) (dss_one (ds_ret (de_bin dop_add (de_int) (de_tfn boot_int dc_int F.n_int (da_cons (de_or (de_cmp dop_eq (de_bin dop_mod (de_var 0) (de_int)) (de_int)) (de_one (de_and (de_cmp dop_eq (de_bin dop_mod (de_var 0) (de_int)) (de_int)) (de_one (de_cmp dop_ne (de_bin dop_mod (de_var 0) (de_int)) (de_int)))))) (da_nil)))))) (dss_nil)) (dss_one (ds_ret (de_if (dt_cmp dop_in (de_var 1) (de_lst (da_cons (de_int) (da_cons (de_int) (da_cons (de_int) (da_cons (de_int) (da_nil))))))) (de_int) (de_int))))
def B__law_next : Cs := cSeq (cAsg (bVar 0) (tgTup [tgName 1, tgName 2, tgName 3])) (cSeq (cIf (bTst (bBin dLt (bVar 3) (bCallP M__law_long (bCons (bVar 1) (bCons (bVar 2) (bNil)))))) (cRet (bTup (bCons (bVar 1) (bCons (bVar 2) (bCons (bBin dAdd (bVar 3) (bCon (.int 1))) (bNil)))))) (cNop)) (cRet (bIf (bTst (bBin dLt (bVar 2) (bCon (.int 12)))) (bTup (bCons (bVar 1) (bCons (bBin dAdd (bVar 2) (bCon (.int 1))) (bCons (bCon (.int 1)) (bNil))))) (bTup (bCons (bBin dAdd (bVar 1) (bCon (.int 1))) (bCons (bCon (.int 1)) (bCons (bCon (.int 1)) (bNil))))))))
def M__law_next : FnS := fnS 4 B__law_next
theorem ok__law_next {g : Gb} (F : Facts g) : Fn g 2 "_law_next" 1 M__law_next := by
  obtain ⟨f, c, fd, h1, h2⟩ := F.f__law_next
  exact fn_ok (k := 1) (fun _ _ _ _ _ => False) h1 h2 sc__law_next (h1.binds fun _ _ _ _ _ _ us hl => match us, hl with | [_], _ => rfl) fun A outer s H E av =>
    dss_cons (ds_asg (vs := [1, 2, 3]) (de_var 0) (dg_tup (dgs_cons (dg_name 1) (dgs_cons (dg_name 2) (dgs_cons (dg_name 3) (dgs_nil)))))) (dss_cons (ds_if (dt_cmp dop_lt (de_var 3) (de_callP (ok__law_long F) (by decide) (ha := da_cons (de_var 1) (da_cons (de_var 2) (da_nil))) (hlen := (bCons_len (bCons_len bNil_len))))) (dss_one (ds_ret (de_tup (da_cons (de_var 1) (da_cons (de_var 2) (da_cons (de_bin dop_add (de_var 3) (de_int)) (da_nil))))))) (dss_nil)) (dss_one (ds_ret (de_if (dt_cmp dop_lt (de_var 2) (de_int)) (de_tup (da_cons (de_var 1) (da_cons (de_bin dop_add (de_var 2) (de_int)) (da_cons (de_int) (da_nil))))) (de_tup (da_cons (de_bin dop_add (de_var 1) (de_int)) (da_cons (de_int) (da_cons (de_int) (da_nil)))))))))
def B__law_number : Cs := cSeq (cAsg (bVar 0) (tgTup [tgName 1, tgName 2, tgName 3])) (cSeq (cSet 4 (bFn dLen (bCons (bComp [5] (bRng2 (bCons (bCon (.int 2000)) (bCons (bVar 1) (bNil)))) (tgName 5) (bTst (bBin dEq (bCallP M__law_long (bCons (bVar 5) (bCons (bCon (.int 2)) (bNil)))) (bCon (.int 29)))) (bVar 5)) (bNil)))) (cRet (bBin dSub (bBin dAdd (bBin dAdd (bBin dAdd (bBin dMul (bCon (.int 365)) (bBin dSub (bVar 1) (bCon (.int 2000)))) (bVar 4)) (bFn dSum (bCons (bComp [5] (bRng2 (bCons (bCon (.int 1)) (bCons (bVar 2) (bNil)))) (tgName 5) (bYes) (bCallP M__law_long (bCons (bVar 1) (bCons (bVar 5) (bNil))))) (bNil)))) (bVar 3)) (bCon (.int 1)))))
def M__law_number : FnS := fnS 6 B__law_number
theorem ok__law_number {g : Gb} (F : Facts g) : Fn g 2 "_law_number" 1 M__law_number := by
  obtain ⟨f, c, fd, h1, h2⟩ := F.f__law_number
  exact fn_ok (k := 1) (fun _ _ _ _ _ => False) h1 h2 sc__law_number (h1.binds fun _ _ _ _ _ _ us hl => match us, hl with | [_], _ => rfl) fun A outer s H E av =>
    dss_cons (ds_asg (vs := [1, 2, 3]) (de_var 0) (dg_tup (dgs_cons (dg_name 1) (dgs_cons (dg_name 2) (dgs_cons (dg_name 3) (dgs_nil)))))) (dss_cons (ds_set 4 (de_bfn boot_len dc_len F.n_len (da_cons (de_comp [("one", 5)] (di_rng2 F.n_range (da_cons (de_int) (da_cons (de_var 1) (da_nil)))) (by change blkC N__law_number (defScope s__law_number) _ _ = true; decide +kernel) (fun Λ' h4 s H C cl fp => dg_name 5) (fun Λ' h4 s H C cl fp => dts_one (dt_cmp dop_eq (de_callP (ok__law_long F) (by decide) (ha := da_cons (de_var 5) (da_cons (de_int) (da_nil))) (hlen := (bCons_len (bCons_len bNil_len)))) (de_int))) (fun Λ' h4 s H C cl fp => de_var 5)) (da_nil)))) (dss_one (ds_ret (de_bin dop_sub (de_bin dop_add (de_bin dop_add (de_bin dop_add (de_bin dop_mul (de_int) (de_bin dop_sub (de_var 1) (de_int))) (de_var 4)) (de_bfn boot_sum dc_sum F.n_sum (da_cons (de_comp [("one", 5)] (di_rng2 F.n_range (da_cons (de_int) (da_cons (de_var 2) (da_nil)))) (by change blkC N__law_number (defScope s__law_number) _ _ = true; decide +kernel) (fun Λ' h5 s H C cl fp => dg_name 5) (fun Λ' h5 s H C cl fp => dts_nil) (fun Λ' h5 s H C cl fp => de_callP (ok__law_long F) (by decide) (ha := da_cons (de_var 1) (da_cons (de_var 5) (da_nil))) (hlen := (bCons_len (bCons_len bNil_len))))) (da_nil)))) (de_var 3)) (de_int)))))
def B__law_span : Cs := cSeq (cAsg (bVar 1) (tgTup [tgName 3, tgName 4, tgName 5])) (cSeq (cPar2 6 7 (bCons (bCallP M__law_number (bCons (bVar 1) (bNil))) (bCons (bCallP M__law_long (bCons (bVar 3) (bCons (bVar 4) (bNil)))) (bNil)))) (cSeq (cIf (bTst (bBin dIn (bVar 0) (bLst (bCons (bCon (.str "week")) (bCons (bCon (.str "two weeks")) (bNil)))))) (cSeq (cSet 8 (bBin dGet (bDisp [(.inr "week", bCon (.int 7)), (.inr "two weeks", bCon (.int 14))]) (bVar 0))) (cSeq (cSet 9 (bBin dIx (bComp [10] (bRng2 (bCons (bBin dAdd (bBin dSub (bVar 6) (bVar 8)) (bCon (.int 1))) (bCons (bBin dAdd (bVar 6) (bCon (.int 1))) (bNil)))) (tgName 10) (bTst (bBin dEq (bBin dMod (bBin dSub (bVar 10) (bVar 2)) (bVar 8)) (bCon (.int 0)))) (bVar 10)) (bCon (.int 0)))) (cRet (bTup (bCons (bVar 9) (bCons (bBin dSub (bBin dAdd (bVar 9) (bVar 8)) (bCon (.int 1))) (bNil))))))) (cNop)) (cSeq (cAsg (bIf (bTst (bBin dEq (bVar 0) (bCon (.str "month")))) (bTup (bCons (bCon (.int 1)) (bCons (bVar 7) (bNil)))) (bIf (bTst (bBin dLt (bVar 5) (bCon (.int 16)))) (bTup (bCons (bCon (.int 1)) (bCons (bCon (.int 15)) (bNil)))) (bTup (bCons (bCon (.int 16)) (bCons (bVar 7) (bNil)))))) (tgTup [tgName 11, tgName 12])) (cRet (bTup (bCons (bBin dAdd (bBin dSub (bVar 6) (bVar 5)) (bVar 11)) (bCons (bBin dAdd (bBin dSub (bVar 6) (bVar 5)) (bVar 12)) (bNil))))))))
def M__law_span : FnS := fnS 13 B__law_span
theorem ok__law_span {g : Gb} (F : Facts g) : Fn g 3 "_law_span" 3 M__law_span := by
  obtain ⟨f, c, fd, h1, h2⟩ := F.f__law_span
  exact fn_ok (k := 2) (fun _ _ _ _ _ => False) h1 h2 sc__law_span (h1.binds fun _ _ _ _ _ _ us hl => match us, hl with | [_, _, _], _ => rfl) fun A outer s H E av =>
    dss_cons (ds_asg (vs := [3, 4, 5]) (de_var 1) (dg_tup (dgs_cons (dg_name 3) (dgs_cons (dg_name 4) (dgs_cons (dg_name 5) (dgs_nil)))))) (dss_cons (ds_par2 6 7 (da_cons (de_callP (ok__law_number F) (by decide) (ha := da_cons (de_var 1) (da_nil)) (hlen := (bCons_len bNil_len))) (da_cons (de_callP (ok__law_long F) (by decide) (ha := da_cons (de_var 3) (da_cons (de_var 4) (da_nil))) (hlen := (bCons_len (bCons_len bNil_len)))) (da_nil)))) (dss_cons (ds_if (dt_cmp dop_in (de_var 0) (de_lst (da_cons (de_str) (da_cons (de_str) (da_nil))))) (dss_cons (ds_set 8 (de_get (de_disp (dps_str (fun _ h7 => de_int) (dps_str (fun _ h6 => de_int) (dps_nil)))) (de_var 0))) (dss_cons (ds_set 9 (de_ix (de_comp [("one", 10)] (di_rng2 F.n_range (da_cons (de_bin dop_add (de_bin dop_sub (de_var 6) (de_var 8)) (de_int)) (da_cons (de_bin dop_add (de_var 6) (de_int)) (da_nil)))) (by change blkC N__law_span (defScope s__law_span) _ _ = true; decide +kernel) (fun Λ' h8 s H C cl fp => dg_name 10) (fun Λ' h8 s H C cl fp => dts_one (dt_cmp dop_eq (de_bin dop_mod (de_bin dop_sub (de_var 10) (de_var 2)) (de_var 8)) (de_int))) (fun Λ' h8 s H C cl fp => de_var 10)) (de_int))) (dss_one (ds_ret (de_tup (da_cons (de_var 9) (da_cons (de_bin dop_sub (de_bin dop_add (de_var 9) (de_var 8)) (de_int)) (da_nil)))))))) (dss_nil)) (dss_cons (ds_asg (vs := [11, 12]) (de_if (dt_cmp dop_eq (de_var 0) (de_str)) (de_tup (da_cons (de_int) (da_cons (de_var 7) (da_nil)))) (de_if (dt_cmp dop_lt (de_var 5) (de_int)) (de_tup (da_cons (de_int) (da_cons (de_int) (da_nil)))) (de_tup (da_cons (de_int) (da_cons (de_var 7) (da_nil)))))) (dg_tup (dgs_cons (dg_name 11) (dgs_cons (dg_name 12) (dgs_nil))))) (dss_one (ds_ret (de_tup (da_cons (de_bin dop_add (de_bin dop_sub (de_var 6) (de_var 5)) (de_var 11)) (da_cons (de_bin dop_add (de_bin dop_sub (de_var 6) (de_var 5)) (de_var 12)) (da_nil)))))))))
def B__law_moved : Cs := cSeq (cSet 2 (bBin dAdd (bBin dSub (bBin dAdd (bBin dMul (bCon (.int 12)) (bBin dIx (bVar 0) (bCon (.int 0)))) (bBin dIx (bVar 0) (bCon (.int 1)))) (bCon (.int 1))) (bVar 1))) (cSeq (cPar2 3 4 (bCons (bBin dDiv (bVar 2) (bCon (.int 12))) (bCons (bBin dAdd (bBin dMod (bVar 2) (bCon (.int 12))) (bCon (.int 1))) (bNil)))) (cRet (bCallP M__law_number (bCons (bTup (bCons (bVar 3) (bCons (bVar 4) (bCons (bFn dMin2 (bCons (bBin dIx (bVar 0) (bCon (.int 2))) (bCons (bCallP M__law_long (bCons (bVar 3) (bCons (bVar 4) (bNil)))) (bNil)))) (bNil))))) (bNil)))))
def M__law_moved : FnS := fnS 5 B__law_moved
theorem ok__law_moved {g : Gb} (F : Facts g) : Fn g 3 "_law_moved" 2 M__law_moved := by
  obtain ⟨f, c, fd, h1, h2⟩ := F.f__law_moved
  exact fn_ok (k := 2) (fun _ _ _ _ _ => False) h1 h2 sc__law_moved (h1.binds fun _ _ _ _ _ _ us hl => match us, hl with | [_, _], _ => rfl) fun A outer s H E av =>
    dss_cons (ds_set 2 (de_bin dop_add (de_bin dop_sub (de_bin dop_add (de_bin dop_mul (de_int) (de_ix (de_var 0) (de_int))) (de_ix (de_var 0) (de_int))) (de_int)) (de_var 1))) (dss_cons (ds_par2 3 4 (da_cons (de_bin dop_div (de_var 2) (de_int)) (da_cons (de_bin dop_add (de_bin dop_mod (de_var 2) (de_int)) (de_int)) (da_nil)))) (dss_one (ds_ret (de_callP (ok__law_number F) (by decide) (ha := da_cons (de_tup (da_cons (de_var 3) (da_cons (de_var 4) (da_cons (de_bfn boot_min dc_min2 F.n_min (da_cons (de_ix (de_var 0) (de_int)) (da_cons (de_callP (ok__law_long F) (by decide) (ha := da_cons (de_var 3) (da_cons (de_var 4) (da_nil))) (hlen := (bCons_len (bCons_len bNil_len)))) (da_nil)))) (da_nil))))) (da_nil)) (hlen := (bCons_len bNil_len))))))
def L__law_plain : List (Cb D) := [bCallP M_days_in_month (bCons (bCon (.int 2026)) (bCons (bCon (.int 0)) (bNil))),
  bCallP M_days_in_month (bCons (bCon (.int 2026)) (bCons (bCon (.int 13)) (bNil))),
  bCallP M_days_in_month (bCons (bCon (.int 1999)) (bCons (bCon (.int 1)) (bNil))),
  bCallP M_days_in_month (bCons (bCon (.int 2200)) (bCons (bCon (.int 1)) (bNil))),
  bCallP M_day_of (bCons (bCon (.int 2026)) (bCons (bCon (.int 2)) (bCons (bCon (.int 29)) (bNil)))),
  bCallP M_day_of (bCons (bCon (.int 2026)) (bCons (bCon (.int 1)) (bCons (bCon (.int 0)) (bNil)))),
  bCallP M_date_of (bCons (bNeg (bCon (.int 1))) (bNil)),
  bCallP M_date_of (bCons (bCon (.int 99999)) (bNil)),
  bCallP M_told_date (bCons (bNeg (bCon (.int 1))) (bNil)),
  bCallP M_read_date (bCons (bCon (.str "2026-1-1")) (bNil)),
  bCallP M_read_date (bCons (bCon (.str "2026-13-01")) (bNil)),
  bCallP M_read_date (bCons (bCon (.str "2026/01/01")) (bNil)),
  bCallP M_read_date (bCons (bCon (.str "2026-0x-01")) (bNil)),
  bCallP M_period_of (bCons (bCon (.str "odd")) (bCons (bCon (.int 1)) (bCons (bCon (.int 0)) (bNil)))),
  bCallP M_period_of (bCons (bCon (.str "month")) (bCons (bNeg (bCon (.int 1))) (bCons (bCon (.int 0)) (bNil)))),
  bCallP M_periods_in_year (bCons (bCon (.str "odd")) (bCons (bCon (.int 2026)) (bCons (bCon (.int 0)) (bNil)))),
  bCallP M_periods_in_year (bCons (bCon (.str "month")) (bCons (bCon (.int 1999)) (bCons (bCon (.int 0)) (bNil)))),
  bCallP M_work_days (bCons (bCon (.int 5)) (bCons (bCon (.int 4)) (bCons (bTup (bCons (bCon (.int 0)) (bNil))) (bCons (bTup (bNil)) (bNil))))),
  bCallP M_work_days (bCons (bCon (.int 4)) (bCons (bCon (.int 5)) (bCons (bTup (bCons (bCon (.int 7)) (bNil))) (bCons (bTup (bNil)) (bNil))))),
  bCallP M_paid_on (bCons (bCon (.int 5)) (bCons (bNeg (bCon (.int 1))) (bCons (bTup (bCons (bCon (.int 0)) (bNil))) (bCons (bTup (bNil)) (bNil))))),
  bCallP M_paid_on (bCons (bCon (.int 5)) (bCons (bCon (.int 0)) (bCons (bTup (bNil)) (bCons (bTup (bNil)) (bNil))))),
  bCallP M_paid_on (bCons (bCon (.int 99)) (bCons (bCon (.int 0)) (bCons (bTup (bCons (bCon (.int 0)) (bNil))) (bCons (bLstRg (bCon (.int 120))) (bNil))))),
  bCallP M_moved_months (bCons (bNeg (bCon (.int 1))) (bCons (bCon (.int 1)) (bNil))),
  bCallP M_moved_months (bCons (bCon (.int 5)) (bCons (bNeg (bCon (.int 1))) (bNil))),
  bCallP M_whole_months (bCons (bCon (.int 5)) (bCons (bCon (.int 4)) (bNil))),
  bCallP M_share_of_days (bCons (bCon (.int 5)) (bCons (bCon (.int 4)) (bCons (bTup (bCons (bCon (.int 0)) (bCons (bCon (.int 6)) (bNil)))) (bNil)))),
  bCallP M_share_of_days (bCons (bCon (.int 4)) (bCons (bCon (.int 5)) (bCons (bTup (bCons (bCon (.int 6)) (bCons (bCon (.int 0)) (bNil)))) (bNil))))]
def B__law_plain : Cs := cSeq (cSet 0 (bLst (bCons (bCallP M_is_leap (bCons (bCon (.int 2000)) (bNil))) (bCons (bCallP M_is_leap (bCons (bCon (.int 2100)) (bNil))) (bCons (bCallP M_days_in_month (bCons (bCon (.int 2024)) (bCons (bCon (.int 2)) (bNil)))) (bCons (bCallP M_day_of (bCons (bCon (.int 2000)) (bCons (bCon (.int 3)) (bCons (bCon (.int 1)) (bNil))))) (bCons (bCallP M_date_of (bCons (bCon (.int 366)) (bNil))) (bCons (bCallP M_week_day (bCons (bCon (.int 0)) (bNil))) (bCons (bCallP M_told_date (bCons (bCon (.int 60)) (bNil))) (bCons (bCallP M_read_date (bCons (bCon (.str "2026-11-19")) (bNil))) (bNil))))))))))) (cSeq (cSet 0 (bBin dAdd (bVar 0) (bLst (bCons (bCallP M_period_of (bCons (bCon (.str "month")) (bCons (bCon (.int 40)) (bCons (bCon (.int 0)) (bNil))))) (bCons (bCallP M_period_of (bCons (bCon (.str "half month")) (bCons (bCon (.int 15)) (bCons (bCon (.int 0)) (bNil))))) (bCons (bCallP M_period_of (bCons (bCon (.str "two weeks")) (bCons (bCon (.int 1)) (bCons (bCon (.int 2)) (bNil))))) (bCons (bFn dLen (bCons (bCallP M_periods_in_year (bCons (bCon (.str "month")) (bCons (bCon (.int 2026)) (bCons (bCon (.int 0)) (bNil))))) (bNil))) (bNil)))))))) (cSeq (cSet 0 (bBin dAdd (bVar 0) (bLst (bCons (bBin dIx (bCallP M_periods_in_year (bCons (bCon (.str "two weeks")) (bCons (bCon (.int 2026)) (bCons (bCon (.int 0)) (bNil))))) (bCon (.int 0))) (bCons (bCallP M_work_days (bCons (bCon (.int 0)) (bCons (bCon (.int 9)) (bCons (bTup (bCons (bCon (.int 0)) (bCons (bCon (.int 1)) (bNil)))) (bCons (bTup (bCons (bCon (.int 2)) (bNil))) (bNil)))))) (bCons (bCallP M_paid_on (bCons (bCon (.int 30)) (bCons (bCon (.int 1)) (bCons (bTup (bCons (bCon (.int 0)) (bNil))) (bCons (bTup (bNil)) (bNil)))))) (bCons (bCallP M_moved_months (bCons (bCon (.int 30)) (bCons (bCon (.int 1)) (bNil)))) (bCons (bCallP M_moved_months (bCons (bCon (.int 60)) (bCons (bNeg (bCon (.int 1))) (bNil)))) (bNil))))))))) (cSeq (cSet 0 (bBin dAdd (bVar 0) (bLst (bCons (bCallP M_whole_months (bCons (bCon (.int 30)) (bCons (bCon (.int 59)) (bNil)))) (bCons (bCallP M_share_of_days (bCons (bCon (.int 5)) (bCons (bCon (.int 9)) (bCons (bTup (bCons (bCon (.int 0)) (bCons (bCon (.int 6)) (bNil)))) (bNil))))) (bCons (bCallP M_two_figures (bCons (bCon (.int 7)) (bNil))) (bCons (bCallP M_share_of_days (bCons (bCon (.int 9)) (bCons (bCon (.int 9)) (bCons (bTup (bCons (bCon (.int 0)) (bCons (bCon (.int 6)) (bNil)))) (bNil))))) (bNil)))))))) (cSeq (cSet 1 (bLst (bCons (bCon (.lam 0)) (bCons (bCon (.lam 1)) (bCons (bCon (.lam 2)) (bCons (bCon (.lam 3)) (bNil))))))) (cSeq (cSet 1 (bBin dAdd (bVar 1) (bLst (bCons (bCon (.lam 4)) (bCons (bCon (.lam 5)) (bCons (bCon (.lam 6)) (bCons (bCon (.lam 7)) (bCons (bCon (.lam 8)) (bNil))))))))) (cSeq (cSet 1 (bBin dAdd (bVar 1) (bLst (bCons (bCon (.lam 9)) (bCons (bCon (.lam 10)) (bCons (bCon (.lam 11)) (bCons (bCon (.lam 12)) (bNil)))))))) (cSeq (cSet 1 (bBin dAdd (bVar 1) (bLst (bCons (bCon (.lam 13)) (bCons (bCon (.lam 14)) (bCons (bCon (.lam 15)) (bNil))))))) (cSeq (cSet 1 (bBin dAdd (bVar 1) (bLst (bCons (bCon (.lam 16)) (bCons (bCon (.lam 17)) (bCons (bCon (.lam 18)) (bNil))))))) (cSeq (cSet 1 (bBin dAdd (bVar 1) (bLst (bCons (bCon (.lam 19)) (bCons (bCon (.lam 20)) (bCons (bCon (.lam 21)) (bCons (bCon (.lam 22)) (bNil)))))))) (cSeq (cSet 1 (bBin dAdd (bVar 1) (bLst (bCons (bCon (.lam 23)) (bCons (bCon (.lam 24)) (bCons (bCon (.lam 25)) (bCons (bCon (.lam 26)) (bNil)))))))) (cSeq (cIf (bTst (bBin dNe (bComp [2, 3] (bEnum (bCons (bVar 1) (bNil))) (tgTup [tgName 2, tgName 3]) (bTst (bBin dNe (bToldV told_ret told_en L__law_plain (bVar 3)) (bCon (.str "PeriodError")))) (bVar 2)) (bLst (bNil)))) (cRet (bCon (.bl false))) (cNop)) (cSeq (cIf (bTst (bBin dNe (bTup (bCons (bBin dIx (bCon k_MONTH_DAYS) (bCon (.int 0))) (bCons (bCon k_SORTS_OF_PERIOD) (bCons (bCon k_LAST_YEAR) (bNil))))) (bTup (bCons (bCon (.int 31)) (bCons (bTup (bCons (bCon (.str "week")) (bCons (bCon (.str "two weeks")) (bCons (bCon (.str "half month")) (bCons (bCon (.str "month")) (bNil)))))) (bCons (bCon (.int 2199)) (bNil))))))) (cRet (bCon (.bl false))) (cNop)) (cRet (bBin dEq (bVar 0) (bLst (bCons (bCon (.bl true)) (bCons (bCon (.bl false)) (bCons (bCon (.int 29)) (bCons (bCon (.int 60)) (bCons (bTup (bCons (bCon (.int 2001)) (bCons (bCon (.int 1)) (bCons (bCon (.int 1)) (bNil))))) (bCons (bCon (.int 5)) (bCons (bCon (.str "2000-03-01")) (bCons (bCon (.int 9819)) (bCons (bTup (bCons (bCon (.int 31)) (bCons (bCon (.int 59)) (bNil)))) (bCons (bTup (bCons (bCon (.int 15)) (bCons (bCon (.int 30)) (bNil)))) (bCons (bTup (bCons (bNeg (bCon (.int 12))) (bCons (bCon (.int 1)) (bNil)))) (bCons (bCon (.int 12)) (bCons (bTup (bCons (bCon (.int 9492)) (bCons (bCon (.int 9505)) (bNil)))) (bCons (bCon (.int 2)) (bCons (bCon (.int 30)) (bCons (bCon (.int 59)) (bCons (bCon (.int 31)) (bCons (bCon (.int 1)) (bCons (bTup (bCons (bCon (.int 2)) (bCons (bCon (.int 7)) (bNil)))) (bCons (bCon (.str "07")) (bCons (bTup (bCons (bCon (.int 0)) (bCons (bCon (.int 7)) (bNil)))) (bNil)))))))))))))))))))))))))))))))))))))
def M__law_plain : FnS := fnS 4 B__law_plain
theorem ok__law_plain {g : Gb} (F : Facts g) : Fn g 8 "_law_plain" 0 M__law_plain := by
  obtain ⟨f, c, fd, h1, h2, PP, TB, hmT, hu⟩ := F.f__law_plain
  obtain ⟨ga, ca, fdt, TF⟩ := F.told
  exact fn_ok (k := 7) (lamP g 5 L__law_plain (("_law_plain.<locals>." : Str) ++ "<lambda>")) h1 h2 sc__law_plain (h1.binds fun _ _ _ _ _ _ us hl => match us, hl with | [], _ => rfl) fun A outer s H E av =>
    dss_cons (ds_set 0 (de_lst (da_cons (de_callP (ok_is_leap F) (by decide) (ha := da_cons (de_int) (da_nil)) (hlen := (bCons_len bNil_len))) (da_cons (de_callP (ok_is_leap F) (by decide) (ha := da_cons (de_int) (da_nil)) (hlen := (bCons_len bNil_len))) (da_cons (de_callP (ok_days_in_month F) (by decide) (ha := da_cons (de_int) (da_cons (de_int) (da_nil))) (hlen := (bCons_len (bCons_len bNil_len)))) (da_cons (de_callP (ok_day_of F) (by decide) (ha := da_cons (de_int) (da_cons (de_int) (da_cons (de_int) (da_nil)))) (hlen := (bCons_len (bCons_len (bCons_len bNil_len))))) (da_cons (de_callP (ok_date_of F) (by decide) (ha := da_cons (de_int) (da_nil)) (hlen := (bCons_len bNil_len))) (da_cons (de_callP (ok_week_day F) (by decide) (ha := da_cons (de_int) (da_nil)) (hlen := (bCons_len bNil_len))) (da_cons (de_callP (ok_told_date F) (by decide) (ha := da_cons (de_int) (da_nil)) (hlen := (bCons_len bNil_len))) (da_cons (de_callP (ok_read_date F) (by decide) (ha := da_cons (de_str) (da_nil)) (hlen := (bCons_len bNil_len))) (da_nil))))))))))) (dss_cons (ds_set 0 (de_bin dop_add (de_var 0) (de_lst (da_cons (de_callP (ok_period_of F) (by decide) (ha := da_cons (de_str) (da_cons (de_int) (da_cons (de_int) (da_nil)))) (hlen := (bCons_len (bCons_len (bCons_len bNil_len))))) (da_cons (de_callP (ok_period_of F) (by decide) (ha := da_cons (de_str) (da_cons (de_int) (da_cons (de_int) (da_nil)))) (hlen := (bCons_len (bCons_len (bCons_len bNil_len))))) (da_cons (de_callP (ok_period_of F) (by decide) (ha := da_cons (de_str) (da_cons (de_int) (da_cons (de_int) (da_nil)))) (hlen := (bCons_len (bCons_len (bCons_len bNil_len))))) (da_cons (de_bfn boot_len dc_len F.n_len (da_cons (de_callP (ok_periods_in_year F) (by decide) (ha := da_cons (de_str) (da_cons (de_int) (da_cons (de_int) (da_nil)))) (hlen := (bCons_len (bCons_len (bCons_len bNil_len))))) (da_nil))) (da_nil)))))))) (dss_cons (ds_set 0 (de_bin dop_add (de_var 0) (de_lst (da_cons (de_ix (de_callP (ok_periods_in_year F) (by decide) (ha := da_cons (de_str) (da_cons (de_int) (da_cons (de_int) (da_nil)))) (hlen := (bCons_len (bCons_len (bCons_len bNil_len))))) (de_int)) (da_cons (de_callP (ok_work_days F) (by decide) (ha := da_cons (de_int) (da_cons (de_int) (da_cons (de_tup (da_cons (de_int) (da_cons (de_int) (da_nil)))) (da_cons (de_tup (da_cons (de_int) (da_nil))) (da_nil))))) (hlen := (bCons_len (bCons_len (bCons_len (bCons_len bNil_len)))))) (da_cons (de_callP (ok_paid_on F) (by decide) (ha := da_cons (de_int) (da_cons (de_int) (da_cons (de_tup (da_cons (de_int) (da_nil))) (da_cons (de_tup (da_nil)) (da_nil))))) (hlen := (bCons_len (bCons_len (bCons_len (bCons_len bNil_len)))))) (da_cons (de_callP (ok_moved_months F) (by decide) (ha := da_cons (de_int) (da_cons (de_int) (da_nil))) (hlen := (bCons_len (bCons_len bNil_len)))) (da_cons (de_callP (ok_moved_months F) (by decide) (ha := da_cons (de_int) (da_cons (de_neg (de_int)) (da_nil))) (hlen := (bCons_len (bCons_len bNil_len)))) (da_nil))))))))) (dss_cons (ds_set 0 (de_bin dop_add (de_var 0) (de_lst (da_cons (de_callP (ok_whole_months F) (by decide) (ha := da_cons (de_int) (da_cons (de_int) (da_nil))) (hlen := (bCons_len (bCons_len bNil_len)))) (da_cons (de_callP (ok_share_of_days F) (by decide) (ha := da_cons (de_int) (da_cons (de_int) (da_cons (de_tup (da_cons (de_int) (da_cons (de_int) (da_nil)))) (da_nil)))) (hlen := (bCons_len (bCons_len (bCons_len bNil_len))))) (da_cons (de_callP (ok_two_figures F) (by decide) (ha := da_cons (de_int) (da_nil)) (hlen := (bCons_len bNil_len))) (da_cons (de_callP (ok_share_of_days F) (by decide) (ha := da_cons (de_int) (da_cons (de_int) (da_cons (de_tup (da_cons (de_int) (da_cons (de_int) (da_nil)))) (da_nil)))) (hlen := (bCons_len (bCons_len (bCons_len bNil_len))))) (da_nil)))))))) (dss_cons (ds_set 1 (de_lst (da_cons (de_lam 0 TB hmT hu rfl rfl (by decide +kernel) (by decide +kernel) (fun _ _ _ _ _ _ _ _ _ => de_callP (ok_days_in_month F) (by decide) (ha := da_cons (de_int) (da_cons (de_int) (da_nil))) (hlen := (bCons_len (bCons_len bNil_len))))) (da_cons (de_lam 1 TB hmT hu rfl rfl (by decide +kernel) (by decide +kernel) (fun _ _ _ _ _ _ _ _ _ => de_callP (ok_days_in_month F) (by decide) (ha := da_cons (de_int) (da_cons (de_int) (da_nil))) (hlen := (bCons_len (bCons_len bNil_len))))) (da_cons (de_lam 2 TB hmT hu rfl rfl (by decide +kernel) (by decide +kernel) (fun _ _ _ _ _ _ _ _ _ => de_callP (ok_days_in_month F) (by decide) (ha := da_cons (de_int) (da_cons (de_int) (da_nil))) (hlen := (bCons_len (bCons_len bNil_len))))) (da_cons (de_lam 3 TB hmT hu rfl rfl (by decide +kernel) (by decide +kernel) (fun _ _ _ _ _ _ _ _ _ => de_callP (ok_days_in_month F) (by decide) (ha := da_cons (de_int) (da_cons (de_int) (da_nil))) (hlen := (bCons_len (bCons_len bNil_len))))) (da_nil))))))) (dss_cons (ds_set 1 (de_bin dop_add (de_var 1) (de_lst (da_cons (de_lam 4 TB hmT hu rfl rfl (by decide +kernel) (by decide +kernel) (fun _ _ _ _ _ _ _ _ _ => de_callP (ok_day_of F) (by decide) (ha := da_cons (de_int) (da_cons (de_int) (da_cons (de_int) (da_nil)))) (hlen := (bCons_len (bCons_len (bCons_len bNil_len)))))) (da_cons (de_lam 5 TB hmT hu rfl rfl (by decide +kernel) (by decide +kernel) (fun _ _ _ _ _ _ _ _ _ => de_callP (ok_day_of F) (by decide) (ha := da_cons (de_int) (da_cons (de_int) (da_cons (de_int) (da_nil)))) (hlen := (bCons_len (bCons_len (bCons_len bNil_len)))))) (da_cons (de_lam 6 TB hmT hu rfl rfl (by decide +kernel) (by decide +kernel) (fun _ _ _ _ _ _ _ _ _ => de_callP (ok_date_of F) (by decide) (ha := da_cons (de_neg (de_int)) (da_nil)) (hlen := (bCons_len bNil_len)))) (da_cons (de_lam 7 TB hmT hu rfl rfl (by decide +kernel) (by decide +kernel) (fun _ _ _ _ _ _ _ _ _ => de_callP (ok_date_of F) (by decide) (ha := da_cons (de_int) (da_nil)) (hlen := (bCons_len bNil_len)))) (da_cons (de_lam 8 TB hmT hu rfl rfl (by decide +kernel) (by decide +kernel) (fun _ _ _ _ _ _ _ _ _ => de_callP (ok_told_date F) (by decide) (ha := da_cons (de_neg (de_int)) (da_nil)) (hlen := (bCons_len bNil_len)))) (da_nil))))))))) (dss_cons (ds_set 1 (de_bin dop_add (de_var 1) (de_lst (da_cons (de_lam 9 TB hmT hu rfl rfl (by decide +kernel) (by decide +kernel) (fun _ _ _ _ _ _ _ _ _ => de_callP (ok_read_date F) (by decide) (ha := da_cons (de_str) (da_nil)) (hlen := (bCons_len bNil_len)))) (da_cons (de_lam 10 TB hmT hu rfl rfl (by decide +kernel) (by decide +kernel) (fun _ _ _ _ _ _ _ _ _ => de_callP (ok_read_date F) (by decide) (ha := da_cons (de_str) (da_nil)) (hlen := (bCons_len bNil_len)))) (da_cons (de_lam 11 TB hmT hu rfl rfl (by decide +kernel) (by decide +kernel) (fun _ _ _ _ _ _ _ _ _ => de_callP (ok_read_date F) (by decide) (ha := da_cons (de_str) (da_nil)) (hlen := (bCons_len bNil_len)))) (da_cons (de_lam 12 TB hmT hu rfl rfl (by decide +kernel) (by decide +kernel) (fun _ _ _ _ _ _ _ _ _ => de_callP (ok_read_date F) (by decide) (ha := da_cons (de_str) (da_nil)) (hlen := (bCons_len bNil_len)))) (da_nil)))))))) (dss_cons (ds_set 1 (de_bin dop_add (de_var 1) (de_lst (da_cons (de_lam 13 TB hmT hu rfl rfl (by decide +kernel) (by decide +kernel) (fun _ _ _ _ _ _ _ _ _ => de_callP (ok_period_of F) (by decide) (ha := da_cons (de_str) (da_cons (de_int) (da_cons (de_int) (da_nil)))) (hlen := (bCons_len (bCons_len (bCons_len bNil_len)))))) (da_cons (de_lam 14 TB hmT hu rfl rfl (by decide +kernel) (by decide +kernel) (fun _ _ _ _ _ _ _ _ _ => de_callP (ok_period_of F) (by decide) (ha := da_cons (de_str) (da_cons (de_neg (de_int)) (da_cons (de_int) (da_nil)))) (hlen := (bCons_len (bCons_len (bCons_len bNil_len)))))) (da_cons (de_lam 15 TB hmT hu rfl rfl (by decide +kernel) (by decide +kernel) (fun _ _ _ _ _ _ _ _ _ => de_callP (ok_periods_in_year F) (by decide) (ha := da_cons (de_str) (da_cons (de_int) (da_cons (de_int) (da_nil)))) (hlen := (bCons_len (bCons_len (bCons_len bNil_len)))))) (da_nil))))))) (dss_cons (ds_set 1 (de_bin dop_add (de_var 1) (de_lst (da_cons (de_lam 16 TB hmT hu rfl rfl (by decide +kernel) (by decide +kernel) (fun _ _ _ _ _ _ _ _ _ => de_callP (ok_periods_in_year F) (by decide) (ha := da_cons (de_str) (da_cons (de_int) (da_cons (de_int) (da_nil)))) (hlen := (bCons_len (bCons_len (bCons_len bNil_len)))))) (da_cons (de_lam 17 TB hmT hu rfl rfl (by decide +kernel) (by decide +kernel) (fun _ _ _ _ _ _ _ _ _ => de_callP (ok_work_days F) (by decide) (ha := da_cons (de_int) (da_cons (de_int) (da_cons (de_tup (da_cons (de_int) (da_nil))) (da_cons (de_tup (da_nil)) (da_nil))))) (hlen := (bCons_len (bCons_len (bCons_len (bCons_len bNil_len))))))) (da_cons (de_lam 18 TB hmT hu rfl rfl (by decide +kernel) (by decide +kernel) (fun _ _ _ _ _ _ _ _ _ => de_callP (ok_work_days F) (by decide) (ha := da_cons (de_int) (da_cons (de_int) (da_cons (de_tup (da_cons (de_int) (da_nil))) (da_cons (de_tup (da_nil)) (da_nil))))) (hlen := (bCons_len (bCons_len (bCons_len (bCons_len bNil_len))))))) (da_nil))))))) (dss_cons (ds_set 1 (de_bin dop_add (de_var 1) (de_lst (da_cons (de_lam 19 TB hmT hu rfl rfl (by decide +kernel) (by decide +kernel) (fun _ _ _ _ _ _ _ _ _ => de_callP (ok_paid_on F) (by decide) (ha := da_cons (de_int) (da_cons (de_neg (de_int)) (da_cons (de_tup (da_cons (de_int) (da_nil))) (da_cons (de_tup (da_nil)) (da_nil))))) (hlen := (bCons_len (bCons_len (bCons_len (bCons_len bNil_len))))))) (da_cons (de_lam 20 TB hmT hu rfl rfl (by decide +kernel) (by decide +kernel) (fun _ _ _ _ _ _ _ _ _ => de_callP (ok_paid_on F) (by decide) (ha := da_cons (de_int) (da_cons (de_int) (da_cons (de_tup (da_nil)) (da_cons (de_tup (da_nil)) (da_nil))))) (hlen := (bCons_len (bCons_len (bCons_len (bCons_len bNil_len))))))) (da_cons (de_lam 21 TB hmT hu rfl rfl (by decide +kernel) (by decide +kernel) (fun _ _ _ _ _ _ _ _ _ => de_callP (ok_paid_on F) (by decide) (ha := da_cons (de_int) (da_cons (de_int) (da_cons (de_tup (da_cons (de_int) (da_nil))) (da_cons (de_lstRg F.n_list F.n_range (de_int)) (da_nil))))) (hlen := (bCons_len (bCons_len (bCons_len (bCons_len bNil_len))))))) (da_cons (de_lam 22 TB hmT hu rfl rfl (by decide +kernel) (by decide +kernel) (fun _ _ _ _ _ _ _ _ _ => de_callP (ok_moved_months F) (by decide) (ha := da_cons (de_neg (de_int)) (da_cons (de_int) (da_nil))) (hlen := (bCons_len (bCons_len bNil_len))))) (da_nil)))))))) (dss_cons (ds_set 1 (de_bin dop_add (de_var 1) (de_lst (da_cons (de_lam 23 TB hmT hu rfl rfl (by decide +kernel) (by decide +kernel) (fun _ _ _ _ _ _ _ _ _ => de_callP (ok_moved_months F) (by decide) (ha := da_cons (de_int) (da_cons (de_neg (de_int)) (da_nil))) (hlen := (bCons_len (bCons_len bNil_len))))) (da_cons (de_lam 24 TB hmT hu rfl rfl (by decide +kernel) (by decide +kernel) (fun _ _ _ _ _ _ _ _ _ => de_callP (ok_whole_months F) (by decide) (ha := da_cons (de_int) (da_cons (de_int) (da_nil))) (hlen := (bCons_len (bCons_len bNil_len))))) (da_cons (de_lam 25 TB hmT hu rfl rfl (by decide +kernel) (by decide +kernel) (fun _ _ _ _ _ _ _ _ _ => de_callP (ok_share_of_days F) (by decide) (ha := da_cons (de_int) (da_cons (de_int) (da_cons (de_tup (da_cons (de_int) (da_cons (de_int) (da_nil)))) (da_nil)))) (hlen := (bCons_len (bCons_len (bCons_len bNil_len)))))) (da_cons (de_lam 26 TB hmT hu rfl rfl (by decide +kernel) (by decide +kernel) (fun _ _ _ _ _ _ _ _ _ => de_callP (ok_share_of_days F) (by decide) (ha := da_cons (de_int) (da_cons (de_int) (da_cons (de_tup (da_cons (de_int) (da_cons (de_int) (da_nil)))) (da_nil)))) (hlen := (bCons_len (bCons_len (bCons_len bNil_len)))))) (da_nil)))))))) (dss_cons (ds_if (dt_cmp dop_ne (de_comp [("k", 2), ("f", 3)] (di_enum F.n_enumerate (da_cons (de_var 1) (da_nil))) (by change blkC N__law_plain (defScope s__law_plain) _ _ = true; decide +kernel) (fun Λ' h9 s H C cl fp => dg_tup (dgs_cons (dg_name 2) (dgs_cons (dg_name 3) (dgs_nil)))) (fun Λ' h9 s H C cl fp => dts_one (dt_cmp dop_ne (de_toldv TF (h9.trans rfl) (by decide) (de_var 3)) (de_str))) (fun Λ' h9 s H C cl fp => de_var 2)) (de_lst (da_nil))) (dss_one (ds_ret (de_bl))) (dss_nil)) (dss_cons (ds_if (dt_cmp dop_ne (de_tup (da_cons (de_ix (de_glob F.c_MONTH_DAYS) (de_int)) (da_cons (de_glob F.c_SORTS_OF_PERIOD) (da_cons (de_glob F.c_LAST_YEAR) (da_nil))))) (de_tup (da_cons (de_int) (da_cons (de_tup (da_cons (de_str) (da_cons (de_str) (da_cons (de_str) (da_cons (de_str) (da_nil)))))) (da_cons (de_int) (da_nil)))))) (dss_one (ds_ret (de_bl))) (dss_nil)) (dss_one (ds_ret (de_cmp dop_eq (de_var 0) (de_lst (da_cons (de_bl) (da_cons (de_bl) (da_cons (de_int) (da_cons (de_int) (da_cons (de_tup (da_cons (de_int) (da_cons (de_int) (da_cons (de_int) (da_nil))))) (da_cons (de_int) (da_cons (de_str) (da_cons (de_int) (da_cons (de_tup (da_cons (de_int) (da_cons (de_int) (da_nil)))) (da_cons (de_tup (da_cons (de_int) (da_cons (de_int) (da_nil)))) (da_cons (de_tup (da_cons (de_neg (de_int)) (da_cons (de_int) (da_nil)))) (da_cons (de_int) (da_cons (de_tup (da_cons (de_int) (da_cons (de_int) (da_nil)))) (da_cons (de_int) (da_cons (de_int) (da_cons (de_int) (da_cons (de_int) (da_cons (de_int) (da_cons (de_tup (da_cons (de_int) (da_cons (de_int) (da_nil)))) (da_cons (de_str) (da_cons (de_tup (da_cons (de_int) (da_cons (de_int) (da_nil)))) (da_nil))))))))))))))))))))))))))))))))))))))
def B_law : Cs := cSeq (cSet 1 (bLst (bCons (bCon (.str "week")) (bCons (bCon (.str "two weeks")) (bCons (bCon (.str "half month")) (bCons (bCon (.str "month")) (bNil))))))) (cSeq (cFor (bItems (bCallM M__law_rounds (bCons (bVar 0) (bCons (bCon (.int 1)) (bNil))))) (tgName 2) (cSeq (cAsg (bTup (bCons (bTup (bCons (bBin dAdd (bCon (.int 2000)) (bCallM M__law_roll (bCons (bVar 2) (bCons (bCon (.int 120)) (bNil))))) (bCons (bBin dAdd (bCon (.int 1)) (bCallM M__law_roll (bCons (bVar 2) (bCons (bCon (.int 12)) (bNil))))) (bCons (bBin dAdd (bCon (.int 1)) (bCallM M__law_roll (bCons (bVar 2) (bCons (bCon (.int 28)) (bNil))))) (bNil))))) (bCons (bCallM M__law_roll (bCons (bVar 2) (bCons (bCon (.int 30)) (bNil)))) (bCons (bBin dIx (bVar 1) (bCallM M__law_roll (bCons (bVar 2) (bCons (bCon (.int 4)) (bNil))))) (bNil))))) (tgTup [tgName 3, tgName 4, tgName 5])) (cSeq (cAsg (bTup (bCons (bCallP M__law_number (bCons (bVar 3) (bNil))) (bCons (bVar 3) (bCons (bLst (bNil)) (bNil))))) (tgTup [tgName 6, tgName 7, tgName 8])) (cSeq (cFor (bRng1 (bCons (bCon (.int 40)) (bNil))) (tgName 9) (cSeq (cSet 10 (bBin dAdd (bVar 6) (bVar 9))) (cSeq (cSet 11 (bBin dAdd (bBin dAdd (bBin dAdd (bBin dAdd (bBin dAdd (bBin dAdd (bFn dStr (bCons (bBin dIx (bVar 7) (bCon (.int 0))) (bNil))) (bCon (.str "-"))) (bFn dStr (bCons (bBin dDiv (bBin dIx (bVar 7) (bCon (.int 1))) (bCon (.int 10))) (bNil)))) (bFn dStr (bCons (bBin dMod (bBin dIx (bVar 7) (bCon (.int 1))) (bCon (.int 10))) (bNil)))) (bCon (.str "-"))) (bFn dStr (bCons (bBin dDiv (bBin dIx (bVar 7) (bCon (.int 2))) (bCon (.int 10))) (bNil)))) (bFn dStr (bCons (bBin dMod (bBin dIx (bVar 7) (bCon (.int 2))) (bCon (.int 10))) (bNil))))) (cSeq (cIf (bOrT (bTst (bBin dNe (bCallP M_day_of (bCons (bBin dIx (bVar 7) (bCon (.int 0))) (bCons (bBin dIx (bVar 7) (bCon (.int 1))) (bCons (bBin dIx (bVar 7) (bCon (.int 2))) (bNil))))) (bVar 10))) (bOrT (bTst (bBin dNe (bCallP M_date_of (bCons (bVar 10) (bNil))) (bVar 7))) (bTst (bBin dNe (bCallP M_told_date (bCons (bVar 10) (bNil))) (bVar 11))))) (cRet (bCon (.bl false))) (cNop)) (cSeq (cIf (bOrT (bTst (bBin dNe (bCallP M_read_date (bCons (bVar 11) (bNil))) (bVar 10))) (bTst (bBin dNe (bCallP M_week_day (bCons (bVar 10) (bNil))) (bBin dMod (bBin dAdd (bVar 10) (bCon (.int 5))) (bCon (.int 7)))))) (cRet (bCon (.bl false))) (cNop)) (cSeq (cIf (bTst (bBin dNe (bCallP M_days_in_month (bCons (bBin dIx (bVar 7) (bCon (.int 0))) (bCons (bBin dIx (bVar 7) (bCon (.int 1))) (bNil)))) (bCallP M__law_long (bCons (bBin dIx (bVar 7) (bCon (.int 0))) (bCons (bBin dIx (bVar 7) (bCon (.int 1))) (bNil)))))) (cRet (bCon (.bl false))) (cNop)) (cSeq (cSet 12 (bCallP M_period_of (bCons (bVar 5) (bCons (bVar 10) (bCons (bVar 4) (bNil)))))) (cSeq (cIf (bOrT (bTst (bBin dNe (bVar 12) (bCallP M__law_span (bCons (bVar 5) (bCons (bVar 7) (bCons (bVar 4) (bNil))))))) (bNotT (bTst (bChain dLe dLe (bBin dIx (bVar 12) (bCon (.int 0))) (bVar 10) (bBin dIx (bVar 12) (bCon (.int 1))))))) (cRet (bCon (.bl false))) (cNop)) (cSeq (cIf (bAndT (bTst (bBin dGt (bVar 9) (bCon (.int 0)))) (bAndT (bTst (bBin dNe (bBin dIx (bVar 8) (bNeg (bCon (.int 1)))) (bVar 12))) (bTst (bBin dNe (bBin dAdd (bBin dIx (bBin dIx (bVar 8) (bNeg (bCon (.int 1)))) (bCon (.int 1))) (bCon (.int 1))) (bBin dIx (bVar 12) (bCon (.int 0))))))) (cRet (bCon (.bl false))) (cNop)) (cSeq (cSet 8 (bBin dAdd (bVar 8) (bLst (bCons (bVar 12) (bNil))))) (cSet 7 (bCallP M__law_next (bCons (bVar 7) (bNil)))))))))))))) (cSeq (cSet 13 (bBin dIx (bVar 3) (bCon (.int 0)))) (cSeq (cAsg (bTup (bCons (bCallP M_periods_in_year (bCons (bVar 5) (bCons (bVar 13) (bCons (bVar 4) (bNil))))) (bCons (bCallP M__law_number (bCons (bTup (bCons (bVar 13) (bCons (bCon (.int 1)) (bCons (bCon (.int 1)) (bNil))))) (bNil))) (bCons (bCallP M__law_number (bCons (bTup (bCons (bVar 13) (bCons (bCon (.int 12)) (bCons (bCon (.int 31)) (bNil))))) (bNil))) (bNil))))) (tgTup [tgName 14, tgName 15, tgName 16])) (cSeq (cIf (bTst (bBin dNe (bComp [12] (bItems (bVar 14)) (tgName 12) (bNotT (bTst (bChain dLe dLe (bVar 15) (bBin dIx (bVar 12) (bCon (.int 1))) (bVar 16)))) (bVar 12)) (bLst (bNil)))) (cRet (bCon (.bl false))) (cNop)) (cSeq (cIf (bOrT (bTst (bBin dNe (bComp [9] (bRng2 (bCons (bCon (.int 1)) (bCons (bFn dLen (bCons (bVar 14) (bNil))) (bNil)))) (tgName 9) (bTst (bBin dNe (bBin dIx (bBin dIx (bVar 14) (bVar 9)) (bCon (.int 0))) (bBin dAdd (bBin dIx (bBin dIx (bVar 14) (bBin dSub (bVar 9) (bCon (.int 1)))) (bCon (.int 1))) (bCon (.int 1))))) (bVar 9)) (bLst (bNil)))) (bTst (bBin dGt (bBin dIx (bBin dIx (bVar 14) (bCon (.int 0))) (bCon (.int 0))) (bVar 15)))) (cRet (bCon (.bl false))) (cNop)) (cSeq (cIf (bAndT (bTst (bBin dLe (bBin dAdd (bBin dIx (bBin dIx (bVar 14) (bNeg (bCon (.int 1)))) (bCon (.int 1))) (bCon (.int 1))) (bVar 16))) (bTst (bBin dNe (bBin dAdd (bBin dIx (bBin dIx (bVar 14) (bNeg (bCon (.int 1)))) (bCon (.int 1))) (bCon (.int 1))) (bBin dIx (bCallP M__law_span (bCons (bVar 5) (bCons (bTup (bCons (bVar 13) (bCons (bCon (.int 12)) (bCons (bCon (.int 31)) (bNil))))) (bCons (bVar 4) (bNil))))) (bCon (.int 0)))))) (cRet (bCon (.bl false))) (cNop)) (cSeq (cAsg (bTup (bCons (bComp [20] (bRng1 (bCons (bCon (.int 7)) (bNil))) (tgName 20) (bTst (bBin dEq (bCallM M__law_roll (bCons (bVar 2) (bCons (bCon (.int 2)) (bNil)))) (bCon (.int 0)))) (bVar 20)) (bCons (bComp [9] (bRng1 (bCons (bCon (.int 40)) (bNil))) (tgName 9) (bTst (bBin dEq (bCallM M__law_roll (bCons (bVar 2) (bCons (bCon (.int 5)) (bNil)))) (bCon (.int 0)))) (bBin dAdd (bVar 6) (bVar 9))) (bCons (bCallM M__law_roll (bCons (bVar 2) (bCons (bCon (.int 39)) (bNil)))) (bNil))))) (tgTup [tgName 17, tgName 18, tgName 19])) (cSeq (cSet 21 (bComp [10] (bRng2 (bCons (bVar 6) (bCons (bBin dAdd (bBin dAdd (bVar 6) (bVar 19)) (bCon (.int 1))) (bNil)))) (tgName 10) (bAndT (bTst (bBin dIn (bBin dMod (bBin dAdd (bVar 10) (bCon (.int 5))) (bCon (.int 7))) (bVar 17))) (bTst (bBin dNin (bVar 10) (bVar 18)))) (bVar 10))) (cSeq (cIf (bTst (bBin dNe (bCallP M_work_days (bCons (bVar 6) (bCons (bBin dAdd (bVar 6) (bVar 19)) (bCons (bVar 17) (bCons (bVar 18) (bNil)))))) (bFn dLen (bCons (bVar 21) (bNil))))) (cRet (bCon (.bl false))) (cNop)) (cSeq (cSet 22 (bCallM M__law_roll (bCons (bVar 2) (bCons (bCon (.int 9)) (bNil))))) (cSeq (cSet 23 (bComp [10] (bRng3n (bCons (bBin dAdd (bBin dAdd (bVar 6) (bCon (.int 20))) (bVar 22)) (bCons (bBin dSub (bBin dAdd (bVar 6) (bVar 22)) (bCon (.int 41))) (bCons (bNeg (bCon (.int 1))) (bNil))))) (tgName 10) (bAndT (bTst (bBin dIn (bBin dMod (bBin dAdd (bVar 10) (bCon (.int 5))) (bCon (.int 7))) (bVar 17))) (bAndT (bTst (bBin dNin (bVar 10) (bVar 18))) (bTst (bBin dGe (bVar 10) (bBin dSub (bBin dAdd (bVar 6) (bVar 22)) (bCon (.int 39))))))) (bVar 10))) (cSeq (cSet 24 (bTold told_ret told_en (bCallP M_paid_on (bCons (bBin dAdd (bVar 6) (bCon (.int 20))) (bCons (bVar 22) (bCons (bVar 17) (bCons (bVar 18) (bNil)))))))) (cSeq (cIf (bOrT (bAndT (bTst (bBin dEq (bVar 17) (bLst (bNil)))) (bTst (bBin dNe (bVar 24) (bCon (.str "PeriodError"))))) (bAndT (bTst (bBin dNe (bVar 17) (bLst (bNil)))) (bTst (bBin dNe (bVar 24) (bBin dIx (bVar 23) (bCon (.int 0))))))) (cRet (bCon (.bl false))) (cNop)) (cSeq (cAsg (bTup (bCons (bBin dSub (bCallM M__law_roll (bCons (bVar 2) (bCons (bCon (.int 30)) (bNil)))) (bBin dMul (bCon (.int 5)) (bFn dInt (bCons (bBin dGt (bBin dIx (bVar 3) (bCon (.int 0))) (bCon (.int 2000))) (bNil))))) (bCons (bCallM M__law_roll (bCons (bVar 2) (bCons (bCon (.int 900)) (bNil)))) (bNil)))) (tgTup [tgName 25, tgName 26])) (cSeq (cSet 27 (bBin dIx (bComp [28] (bRng1 (bCons (bCon (.int 40)) (bNil))) (tgName 28) (bTst (bBin dLe (bCallP M__law_moved (bCons (bVar 3) (bCons (bVar 28) (bNil)))) (bBin dAdd (bVar 6) (bVar 26)))) (bVar 28)) (bNeg (bCon (.int 1))))) (cSeq (cIf (bOrT (bTst (bBin dNe (bCallP M_moved_months (bCons (bVar 6) (bCons (bVar 25) (bNil)))) (bCallP M__law_moved (bCons (bVar 3) (bCons (bVar 25) (bNil)))))) (bTst (bBin dNe (bCallP M_whole_months (bCons (bVar 6) (bCons (bBin dAdd (bVar 6) (bVar 26)) (bNil)))) (bVar 27)))) (cRet (bCon (.bl false))) (cNop)) (cSeq (cPar2 29 30 (bCons (bBin dAdd (bVar 6) (bCallM M__law_roll (bCons (bVar 2) (bCons (bCon (.int 20)) (bNil))))) (bCons (bBin dAdd (bBin dAdd (bVar 6) (bCon (.int 20))) (bCallM M__law_roll (bCons (bVar 2) (bCons (bCon (.int 20)) (bNil))))) (bNil)))) (cIf (bTst (bBin dNe (bCallP M_share_of_days (bCons (bVar 29) (bCons (bVar 30) (bCons (bBin dIx (bVar 8) (bCon (.int 0))) (bNil))))) (bTup (bCons (bFn dLen (bCons (bComp [31] (bRng2 (bCons (bVar 29) (bCons (bBin dAdd (bVar 30) (bCon (.int 1))) (bNil)))) (tgName 31) (bTst (bChain dLe dLe (bBin dIx (bBin dIx (bVar 8) (bCon (.int 0))) (bCon (.int 0))) (bVar 31) (bBin dIx (bBin dIx (bVar 8) (bCon (.int 0))) (bCon (.int 1))))) (bVar 31)) (bNil))) (bCons (bBin dAdd (bBin dSub (bBin dIx (bBin dIx (bVar 8) (bCon (.int 0))) (bCon (.int 1))) (bBin dIx (bBin dIx (bVar 8) (bCon (.int 0))) (bCon (.int 0)))) (bCon (.int 1))) (bNil)))))) (cRet (bCon (.bl false))) (cNop)))))))))))))))))))))) (cRet (bCall0 M__law_plain)))
def M_law : FnS := fnS 32 B_law
theorem ok_law {g : Gb} (F : Facts g) : FnC g 11 "law" s_law ["script"] M_law := by
  obtain ⟨f, c, fd, h1, h2, PP, TB, hmT, hu⟩ := F.f_law
  obtain ⟨ga, ca, fdt, TF⟩ := F.told
  refine ⟨f, c, fd, h1, h2, ?_⟩
  exact fn_okE (k := 10) (fun _ _ _ _ _ => False) h1 h2 sc_law (h1.binds fun _ _ _ _ _ _ us hl => match us, hl with | [_], _ => rfl) fun A outer s H E av =>
    dss_cons (ds_set 1 (de_lst (da_cons (de_str) (da_cons (de_str) (da_cons (de_str) (da_cons (de_str) (da_nil))))))) (dss_cons (ds_for (vs := [2]) (di_sq (de_callM (ok__law_rounds F) (by decide) (ha := da_cons (de_var 0) (da_cons (de_int) (da_nil))) (hlen := (bCons_len (bCons_len bNil_len))))) (dg_name 2) (dss_cons (ds_asg (vs := [3, 4, 5]) (de_tup (da_cons (de_tup (da_cons (de_bin dop_add (de_int) (de_callM (ok__law_roll F) (by decide) (ha := da_cons (de_var 2) (da_cons (de_int) (da_nil))) (hlen := (bCons_len (bCons_len bNil_len))))) (da_cons (de_bin dop_add (de_int) (de_callM (ok__law_roll F) (by decide) (ha := da_cons (de_var 2) (da_cons (de_int) (da_nil))) (hlen := (bCons_len (bCons_len bNil_len))))) (da_cons (de_bin dop_add (de_int) (de_callM (ok__law_roll F) (by decide) (ha := da_cons (de_var 2) (da_cons (de_int) (da_nil))) (hlen := (bCons_len (bCons_len bNil_len))))) (da_nil))))) (da_cons (de_callM (ok__law_roll F) (by decide) (ha := da_cons (de_var 2) (da_cons (de_int) (da_nil))) (hlen := (bCons_len (bCons_len bNil_len)))) (da_cons (de_ix (de_var 1) (de_callM (ok__law_roll F) (by decide) (ha := da_cons (de_var 2) (da_cons (de_int) (da_nil))) (hlen := (bCons_len (bCons_len bNil_len))))) (da_nil))))) (dg_tup (dgs_cons (dg_name 3) (dgs_cons (dg_name 4) (dgs_cons (dg_name 5) (dgs_nil)))))) (dss_cons (ds_asg (vs := [6, 7, 8]) (de_tup (da_cons (de_callP (ok__law_number F) (by decide) (ha := da_cons (de_var 3) (da_nil)) (hlen := (bCons_len bNil_len))) (da_cons (de_var 3) (da_cons (de_lst (da_nil)) (da_nil))))) (dg_tup (dgs_cons (dg_name 6) (dgs_cons (dg_name 7) (dgs_cons (dg_name 8) (dgs_nil)))))) (dss_cons (ds_for (vs := [9]) (di_rng1 F.n_range (da_cons (de_int) (da_nil))) (dg_name 9) (dss_cons (ds_set 10 (de_bin dop_add (de_var 6) (de_var 9))) (dss_cons (ds_set 11 (de_bin dop_add (de_bin dop_add (de_bin dop_add (de_bin dop_add (de_bin dop_add (de_bin dop_add (de_tfn boot_str dc_str F.n_str (da_cons (de_ix (de_var 7) (de_int)) (da_nil))) (de_str)) (de_tfn boot_str dc_str F.n_str (da_cons (de_bin dop_div (de_ix (de_var 7) (de_int)) (de_int)) (da_nil)))) (de_tfn boot_str dc_str F.n_str (da_cons (de_bin dop_mod (de_ix (de_var 7) (de_int)) (de_int)) (da_nil)))) (de_str)) (de_tfn boot_str dc_str F.n_str (da_cons (de_bin dop_div (de_ix (de_var 7) (de_int)) (de_int)) (da_nil)))) (de_tfn boot_str dc_str F.n_str (da_cons (de_bin dop_mod (de_ix (de_var 7) (de_int)) (de_int)) (da_nil))))) (dss_cons (ds_if (dt_w (dw_or (dt_cmp dop_ne (de_callP (ok_day_of F) (by decide) (ha := da_cons (de_ix (de_var 7) (de_int)) (da_cons (de_ix (de_var 7) (de_int)) (da_cons (de_ix (de_var 7) (de_int)) (da_nil)))) (hlen := (bCons_len (bCons_len (bCons_len bNil_len))))) (de_var 10)) (dw_or (dt_cmp dop_ne (de_callP (ok_date_of F) (by decide) (ha := da_cons (de_var 10) (da_nil)) (hlen := (bCons_len bNil_len))) (de_var 7)) (dw_or1 (dt_cmp dop_ne (de_callP (ok_told_date F) (by decide) (ha := da_cons (de_var 10) (da_nil)) (hlen := (bCons_len bNil_len))) (de_var 11)))))) (dss_one (ds_ret (de_bl))) (dss_nil)) (dss_cons (ds_if (dt_w (dw_or (dt_cmp dop_ne (de_callP (ok_read_date F) (by decide) (ha := da_cons (de_var 11) (da_nil)) (hlen := (bCons_len bNil_len))) (de_var 10)) (dw_or1 (dt_cmp dop_ne (de_callP (ok_week_day F) (by decide) (ha := da_cons (de_var 10) (da_nil)) (hlen := (bCons_len bNil_len))) (de_bin dop_mod (de_bin dop_add (de_var 10) (de_int)) (de_int)))))) (dss_one (ds_ret (de_bl))) (dss_nil)) (dss_cons (ds_if (dt_cmp dop_ne (de_callP (ok_days_in_month F) (by decide) (ha := da_cons (de_ix (de_var 7) (de_int)) (da_cons (de_ix (de_var 7) (de_int)) (da_nil))) (hlen := (bCons_len (bCons_len bNil_len)))) (de_callP (ok__law_long F) (by decide) (ha := da_cons (de_ix (de_var 7) (de_int)) (da_cons (de_ix (de_var 7) (de_int)) (da_nil))) (hlen := (bCons_len (bCons_len bNil_len))))) (dss_one (ds_ret (de_bl))) (dss_nil)) (dss_cons (ds_set 12 (de_callP (ok_period_of F) (by decide) (ha := da_cons (de_var 5) (da_cons (de_var 10) (da_cons (de_var 4) (da_nil)))) (hlen := (bCons_len (bCons_len (bCons_len bNil_len)))))) (dss_cons (ds_if (dt_w (dw_or (dt_cmp dop_ne (de_var 12) (de_callP (ok__law_span F) (by decide) (ha := da_cons (de_var 5) (da_cons (de_var 7) (da_cons (de_var 4) (da_nil)))) (hlen := (bCons_len (bCons_len (bCons_len bNil_len)))))) (dw_or1 (dt_not (dt_chain dop_le dop_le (de_ix (de_var 12) (de_int)) (de_var 10) (de_ix (de_var 12) (de_int))))))) (dss_one (ds_ret (de_bl))) (dss_nil)) (dss_cons (ds_if (dt_w (dw_and (dt_cmp dop_gt (de_var 9) (de_int)) (dw_and (dt_cmp dop_ne (de_ix (de_var 8) (de_neg (de_int))) (de_var 12)) (dw_and1 (dt_cmp dop_ne (de_bin dop_add (de_ix (de_ix (de_var 8) (de_neg (de_int))) (de_int)) (de_int)) (de_ix (de_var 12) (de_int))))))) (dss_one (ds_ret (de_bl))) (dss_nil)) (dss_cons (ds_set 8 (de_bin dop_add (de_var 8) (de_lst (da_cons (de_var 12) (da_nil))))) (dss_one (ds_set 7 (de_callP (ok__law_next F) (by decide) (ha := da_cons (de_var 7) (da_nil)) (hlen := (bCons_len bNil_len))))))))))))))) (dss_cons (ds_set 13 (de_ix (de_var 3) (de_int))) (dss_cons (ds_asg (vs := [14, 15, 16]) (de_tup (da_cons (de_callP (ok_periods_in_year F) (by decide) (ha := da_cons (de_var 5) (da_cons (de_var 13) (da_cons (de_var 4) (da_nil)))) (hlen := (bCons_len (bCons_len (bCons_len bNil_len))))) (da_cons (de_callP (ok__law_number F) (by decide) (ha := da_cons (de_tup (da_cons (de_var 13) (da_cons (de_int) (da_cons (de_int) (da_nil))))) (da_nil)) (hlen := (bCons_len bNil_len))) (da_cons (de_callP (ok__law_number F) (by decide) (ha := da_cons (de_tup (da_cons (de_var 13) (da_cons (de_int) (da_cons (de_int) (da_nil))))) (da_nil)) (hlen := (bCons_len bNil_len))) (da_nil))))) (dg_tup (dgs_cons (dg_name 14) (dgs_cons (dg_name 15) (dgs_cons (dg_name 16) (dgs_nil)))))) (dss_cons (ds_if (dt_cmp dop_ne (de_comp [("span", 12)] (di_sq (de_var 14)) (by change blkC N_law (defScope s_law) _ _ = true; decide +kernel) (fun Λ' h10 s H C cl fp => dg_name 12) (fun Λ' h10 s H C cl fp => dts_one (dt_not (dt_chain dop_le dop_le (de_var 15) (de_ix (de_var 12) (de_int)) (de_var 16)))) (fun Λ' h10 s H C cl fp => de_var 12)) (de_lst (da_nil))) (dss_one (ds_ret (de_bl))) (dss_nil)) (dss_cons (ds_if (dt_w (dw_or (dt_cmp dop_ne (de_comp [("k", 9)] (di_rng2 F.n_range (da_cons (de_int) (da_cons (de_bfn boot_len dc_len F.n_len (da_cons (de_var 14) (da_nil))) (da_nil)))) (by change blkC N_law (defScope s_law) _ _ = true; decide +kernel) (fun Λ' h11 s H C cl fp => dg_name 9) (fun Λ' h11 s H C cl fp => dts_one (dt_cmp dop_ne (de_ix (de_ix (de_var 14) (de_var 9)) (de_int)) (de_bin dop_add (de_ix (de_ix (de_var 14) (de_bin dop_sub (de_var 9) (de_int))) (de_int)) (de_int)))) (fun Λ' h11 s H C cl fp => de_var 9)) (de_lst (da_nil))) (dw_or1 (dt_cmp dop_gt (de_ix (de_ix (de_var 14) (de_int)) (de_int)) (de_var 15))))) (dss_one (ds_ret (de_bl))) (dss_nil)) (dss_cons (ds_if (dt_w (dw_and (dt_cmp dop_le (de_bin dop_add (de_ix (de_ix (de_var 14) (de_neg (de_int))) (de_int)) (de_int)) (de_var 16)) (dw_and1 (dt_cmp dop_ne (de_bin dop_add (de_ix (de_ix (de_var 14) (de_neg (de_int))) (de_int)) (de_int)) (de_ix (de_callP (ok__law_span F) (by decide) (ha := da_cons (de_var 5) (da_cons (de_tup (da_cons (de_var 13) (da_cons (de_int) (da_cons (de_int) (da_nil))))) (da_cons (de_var 4) (da_nil)))) (hlen := (bCons_len (bCons_len (bCons_len bNil_len))))) (de_int)))))) (dss_one (ds_ret (de_bl))) (dss_nil)) (dss_cons (ds_asg (vs := [17, 18, 19]) (de_tup (da_cons (de_comp [("day", 20)] (di_rng1 F.n_range (da_cons (de_int) (da_nil))) (by change blkC N_law (defScope s_law) _ _ = true; decide +kernel) (fun Λ' h12 s H C cl fp => dg_name 20) (fun Λ' h12 s H C cl fp => dts_one (dt_cmp dop_eq (de_callM (ok__law_roll F) (by decide) (ha := da_cons (de_var 2) (da_cons (de_int) (da_nil))) (hlen := (bCons_len (bCons_len bNil_len)))) (de_int))) (fun Λ' h12 s H C cl fp => de_var 20)) (da_cons (de_comp [("k", 9)] (di_rng1 F.n_range (da_cons (de_int) (da_nil))) (by change blkC N_law (defScope s_law) _ _ = true; decide +kernel) (fun Λ' h13 s H C cl fp => dg_name 9) (fun Λ' h13 s H C cl fp => dts_one (dt_cmp dop_eq (de_callM (ok__law_roll F) (by decide) (ha := da_cons (de_var 2) (da_cons (de_int) (da_nil))) (hlen := (bCons_len (bCons_len bNil_len)))) (de_int))) (fun Λ' h13 s H C cl fp => de_bin dop_add (de_var 6) (de_var 9))) (da_cons (de_callM (ok__law_roll F) (by decide) (ha := da_cons (de_var 2) (da_cons (de_int) (da_nil))) (hlen := (bCons_len (bCons_len bNil_len)))) (da_nil))))) (dg_tup (dgs_cons (dg_name 17) (dgs_cons (dg_name 18) (dgs_cons (dg_name 19) (dgs_nil)))))) (dss_cons (ds_setLc 21 [("number", 10)] (di_rng2 F.n_range (da_cons (de_var 6) (da_cons (de_bin dop_add (de_bin dop_add (de_var 6) (de_var 19)) (de_int)) (da_nil)))) (by change blkC N_law (defScope s_law) _ _ = true; decide +kernel) (fun Λ' h14 s H C cl fp => dg_name 10) (fun Λ' h14 s H C cl fp => dts_one (dt_w (dw_and (dt_cmp dop_in (de_bin dop_mod (de_bin dop_add (de_var 10) (de_int)) (de_int)) (de_var 17)) (dw_and1 (dt_cmp dop_nin (de_var 10) (de_var 18)))))) (fun Λ' h14 s H C cl fp => de_var 10) (hsw := sw_true rfl rfl rfl (by decide +kernel))) (dss_cons (ds_if (dt_cmp dop_ne (de_callP (ok_work_days F) (by decide) (ha := da_cons (de_var 6) (da_cons (de_bin dop_add (de_var 6) (de_var 19)) (da_cons (de_var 17) (da_cons (de_var 18) (da_nil))))) (hlen := (bCons_len (bCons_len (bCons_len (bCons_len bNil_len)))))) (de_bfn boot_len dc_len F.n_len (da_cons (de_var 21) (da_nil)))) (dss_one (ds_ret (de_bl))) (dss_nil)) (dss_cons (ds_set 22 (de_callM (ok__law_roll F) (by decide) (ha := da_cons (de_var 2) (da_cons (de_int) (da_nil))) (hlen := (bCons_len (bCons_len bNil_len))))) (dss_cons (ds_setLc 23 [("number", 10)] (di_rng3n F.n_range (da_cons (de_bin dop_add (de_bin dop_add (de_var 6) (de_int)) (de_var 22)) (da_cons (de_bin dop_sub (de_bin dop_add (de_var 6) (de_var 22)) (de_int)) (da_cons (de_neg (de_int)) (da_nil))))) (by change blkC N_law (defScope s_law) _ _ = true; decide +kernel) (fun Λ' h15 s H C cl fp => dg_name 10) (fun Λ' h15 s H C cl fp => dts_one (dt_w (dw_and (dt_cmp dop_in (de_bin dop_mod (de_bin dop_add (de_var 10) (de_int)) (de_int)) (de_var 17)) (dw_and (dt_cmp dop_nin (de_var 10) (de_var 18)) (dw_and1 (dt_cmp dop_ge (de_var 10) (de_bin dop_sub (de_bin dop_add (de_var 6) (de_var 22)) (de_int)))))))) (fun Λ' h15 s H C cl fp => de_var 10) (hsw := sw_true rfl rfl rfl (by decide +kernel))) (dss_cons (ds_set 24 (de_told (k' := 8) TF TB hmT hu (by decide) (by change lamSB (defScope s_law) _ = true; decide +kernel) (fun _ _ _ _ _ _ _ => de_callP (ok_paid_on F) (by decide) (ha := da_cons (de_bin dop_add (de_var 6) (de_int)) (da_cons (de_var 22) (da_cons (de_var 17) (da_cons (de_var 18) (da_nil))))) (hlen := (bCons_len (bCons_len (bCons_len (bCons_len bNil_len)))))))) (dss_cons (ds_if (dt_w (dw_or (dt_w (dw_and (dt_cmp dop_eq (de_var 17) (de_lst (da_nil))) (dw_and1 (dt_cmp dop_ne (de_var 24) (de_str))))) (dw_or1 (dt_w (dw_and (dt_cmp dop_ne (de_var 17) (de_lst (da_nil))) (dw_and1 (dt_cmp dop_ne (de_var 24) (de_ix (de_var 23) (de_int))))))))) (dss_one (ds_ret (de_bl))) (dss_nil)) (dss_cons (ds_asg (vs := [25, 26]) (de_tup (da_cons (de_bin dop_sub (de_callM (ok__law_roll F) (by decide) (ha := da_cons (de_var 2) (da_cons (de_int) (da_nil))) (hlen := (bCons_len (bCons_len bNil_len)))) (de_bin dop_mul (de_int) (de_tfn boot_int dc_int F.n_int (da_cons (de_cmp dop_gt (de_ix (de_var 3) (de_int)) (de_int)) (da_nil))))) (da_cons (de_callM (ok__law_roll F) (by decide) (ha := da_cons (de_var 2) (da_cons (de_int) (da_nil))) (hlen := (bCons_len (bCons_len bNil_len)))) (da_nil)))) (dg_tup (dgs_cons (dg_name 25) (dgs_cons (dg_name 26) (dgs_nil))))) (dss_cons (ds_set 27 (de_ix (de_comp [("count", 28)] (di_rng1 F.n_range (da_cons (de_int) (da_nil))) (by change blkC N_law (defScope s_law) _ _ = true; decide +kernel) (fun Λ' h16 s H C cl fp => dg_name 28) (fun Λ' h16 s H C cl fp => dts_one (dt_cmp dop_le (de_callP (ok__law_moved F) (by decide) (ha := da_cons (de_var 3) (da_cons (de_var 28) (da_nil))) (hlen := (bCons_len (bCons_len bNil_len)))) (de_bin dop_add (de_var 6) (de_var 26)))) (fun Λ' h16 s H C cl fp => de_var 28)) (de_neg (de_int)))) (dss_cons (ds_if (dt_w (dw_or (dt_cmp dop_ne (de_callP (ok_moved_months F) (by decide) (ha := da_cons (de_var 6) (da_cons (de_var 25) (da_nil))) (hlen := (bCons_len (bCons_len bNil_len)))) (de_callP (ok__law_moved F) (by decide) (ha := da_cons (de_var 3) (da_cons (de_var 25) (da_nil))) (hlen := (bCons_len (bCons_len bNil_len))))) (dw_or1 (dt_cmp dop_ne (de_callP (ok_whole_months F) (by decide) (ha := da_cons (de_var 6) (da_cons (de_bin dop_add (de_var 6) (de_var 26)) (da_nil))) (hlen := (bCons_len (bCons_len bNil_len)))) (de_var 27))))) (dss_one (ds_ret (de_bl))) (dss_nil)) (dss_cons (ds_par2 29 30 (da_cons (de_bin dop_add (de_var 6) (de_callM (ok__law_roll F) (by decide) (ha := da_cons (de_var 2) (da_cons (de_int) (da_nil))) (hlen := (bCons_len (bCons_len bNil_len))))) (da_cons (de_bin dop_add (de_bin dop_add (de_var 6) (de_int)) (de_callM (ok__law_roll F) (by decide) (ha := da_cons (de_var 2) (da_cons (de_int) (da_nil))) (hlen := (bCons_len (bCons_len bNil_len))))) (da_nil)))) (dss_one (ds_if (dt_cmp dop_ne (de_callP (ok_share_of_days F) (by decide) (ha := da_cons (de_var 29) (da_cons (de_var 30) (da_cons (de_ix (de_var 8) (de_int)) (da_nil)))) (hlen := (bCons_len (bCons_len (bCons_len bNil_len))))) (de_tup (da_cons (de_bfn boot_len dc_len F.n_len (da_cons (de_comp [("one", 31)] (di_rng2 F.n_range (da_cons (de_var 29) (da_cons (de_bin dop_add (de_var 30) (de_int)) (da_nil)))) (by change blkC N_law (defScope s_law) _ _ = true; decide +kernel) (fun Λ' h17 s H C cl fp => dg_name 31) (fun Λ' h17 s H C cl fp => dts_one (dt_chain dop_le dop_le (de_ix (de_ix (de_var 8) (de_int)) (de_int)) (de_var 31) (de_ix (de_ix (de_var 8) (de_int)) (de_int)))) (fun Λ' h17 s H C cl fp => de_var 31)) (da_nil))) (da_cons (de_bin dop_add (de_bin dop_sub (de_ix (de_ix (de_var 8) (de_int)) (de_int)) (de_ix (de_ix (de_var 8) (de_int)) (de_int))) (de_int)) (da_nil))))) (dss_one (ds_ret (de_bl))) (dss_nil))))))))))))))))))))))) (dss_one (ds_ret (de_call0 (ok__law_plain F) (by decide)))))
end K01

set_option linter.all false
set_option maxRecDepth 100000
set_option maxHeartbeats 4000000
namespace K01
open PySem Mi L2
def leap (y : Int) : Bool := decide (y % 4 = 0) && (!decide (y % 100 = 0) || decide (y % 400 = 0))
theorem is_leap_s (y : Int) (μ : Sto) : M_is_leap [.int y] μ = some (.ok (.bl (leap y)) μ) := by
  unfold M_is_leap B_is_leap leap
  rw [fnS_s]
  by_cases h1 : y % 4 = 0 <;> by_cases h2 : y % 100 = 0 <;> by_cases h3 : y % 400 = 0 <;> simp [modOk, lamf, h1, h2, h3]
def dim (y m : Int) : Int := if m = 2 then (if leap y then 29 else 28) else if m = 4 ∨ m = 6 ∨ m = 9 ∨ m = 11 then 30 else 31
def ylen (y : Int) : Int := if leap y then 366 else 365
theorem dim_s (y m : Int) (hy : 2000 ≤ y ∧ y ≤ 2199) (hm : 1 ≤ m ∧ m ≤ 12) : M_days_in_month [.int y, .int m] [] = some (.ok (.int (dim y m)) []) := by
  unfold M_days_in_month B_days_in_month
  rw [fnS_s]
  have h : m = 1 ∨ m = 2 ∨ m = 3 ∨ m = 4 ∨ m = 5 ∨ m = 6 ∨ m = 7 ∨ m = 8 ∨ m = 9 ∨ m = 10 ∨ m = 11 ∨ m = 12 := by omega
  rcases h with rfl | rfl | rfl | rfl | rfl | rfl | rfl | rfl | rfl | rfl | rfl | rfl <;> cases hl : leap y <;> simp [purs, pur, trD, lamf, k_LAST_YEAR, k_MONTH_DAYS, is_leap_s, atI, ixN, dim, hy.1, hy.2, hl]
theorem dim_pos (y m : Int) : 28 ≤ dim y m ∧ dim y m ≤ 31 := by
  unfold dim
  split
  · split <;> omega
  · split <;> omega
/-- days ahead of the year 2000 + n; of the month n + 1 -/
def yb : Nat → Int
  | 0 => 0
  | n + 1 => yb n + ylen (2000 + n)
def mb (y : Int) : Nat → Int
  | 0 => 0
  | n + 1 => mb y n + dim y (n + 1)
theorem mb12 (y : Int) : mb y 12 = ylen y := by
  simp only [mb, dim, ylen]
  cases leap y <;> simp
theorem ylen_b (y : Int) : 365 ≤ ylen y ∧ ylen y ≤ 366 := by
  unfold ylen
  split <;> omega
theorem yb_mono {a b : Nat} (h : a ≤ b) : yb a ≤ yb b := by
  induction b with
  | zero => have : a = 0 := by omega
            subst this; omega
  | succ b ih =>
    by_cases e : a = b + 1
    · subst e; omega
    · have := ih (by omega)
      have h2 := ylen_b (2000 + b)
      show yb a ≤ yb b + ylen (2000 + b)
      omega
theorem mb_mono {y : Int} {a b : Nat} (h : a ≤ b) : mb y a ≤ mb y b := by
  induction b with
  | zero => have : a = 0 := by omega
            subst this; omega
  | succ b ih =>
    by_cases e : a = b + 1
    · subst e; omega
    · have := ih (by omega)
      have h2 := dim_pos y (b + 1)
      show mb y a ≤ mb y b + dim y (b + 1)
      omega
theorem yb_nn (n : Nat) : 0 ≤ yb n := yb_mono (Nat.zero_le n)
theorem mb_nn (y : Int) (n : Nat) : 0 ≤ mb y n := mb_mono (Nat.zero_le n)
structure Valid (y m d : Int) : Prop where
  hy : 2000 ≤ y ∧ y ≤ 2199
  hm : 1 ≤ m ∧ m ≤ 12
  hd : 1 ≤ d ∧ d ≤ dim y m
def dn (y m d : Int) : Int := d - 1 + yb (y - 2000).toNat + mb y (m.toNat - 1)
theorem day_of_s {y m d : Int} (h : Valid y m d) : M_day_of [.int y, .int m, .int d] [] = some (.ok (.int (dn y m d)) []) := by
  obtain ⟨hy, hm, hd⟩ := h
  unfold M_day_of B_day_of
  rw [fnS_s]
  obtain ⟨o, e1⟩ := rng_tg (b := cAug 3 dIAdd (bIf (bTru (bCallP M_is_leap (bCons (bVar 4) (bNil)))) (bCon (.int 366)) (bCon (.int 365)))) (μ := []) 4 (fun i o => [some (.int y), some (.int m), some (.int d), some (.int (d - 1 + yb i)), o]) 2000 (y - 2000).toNat (fun _ _ _ => rfl)
    (fun i hi => by cases hl : leap (2000 + i) <;> simp [is_leap_s, purs, pur, trD, yb, ylen, hl] <;> omega) none
  simp only [yb, Int.add_zero] at e1
  obtain ⟨o2, e2⟩ := rng_tg (b := cAug 3 dIAdd (bCallP M_days_in_month (bCons (bVar 0) (bCons (bVar 4) (bNil))))) (μ := []) 4 (fun i o => [some (.int y), some (.int m), some (.int d), some (.int (d - 1 + yb (y - 2000).toNat + mb y i)), o]) 1 (m.toNat - 1) (fun _ _ _ => rfl)
    (fun i hi => by
      simp [dim_s y (1 + i) hy (by omega), purs, pur, trD, mb]
      rw [Int.add_comm 1 (i : Int)]
      omega) o
  simp only [mb, Int.add_zero] at e2
  have q1 : -4611686018427387904 ≤ y ∧ y < 4611686018427387904 := by omega
  have q2 : -4611686018427387904 ≤ m ∧ m < 4611686018427387904 := by omega
  simp [dim_s y m hy hm, purs, pur, trD, hd.1, hd.2, q1, q2, e1, e2, lamf, dn]
end K01

set_option linter.all false
set_option maxRecDepth 100000
set_option maxHeartbeats 4000000
namespace K01
open PySem Mi L2
theorem week_day_s (n : Int) : M_week_day [.int n] [] = some (.ok (.int ((n + 5) % 7)) []) := by
  unfold M_week_day B_week_day
  rw [fnS_s]
  simp [modOk, lamf]
theorem mb_lt {y m d : Int} (h : Valid y m d) : d - 1 + mb y (m.toNat - 1) < ylen y := by
  obtain ⟨hy, hm, hd⟩ := h
  rw [← mb12 y]
  have h1 : mb y (m.toNat - 1 + 1) ≤ mb y 12 := mb_mono (by omega)
  have h2 : mb y (m.toNat - 1 + 1) = mb y (m.toNat - 1) + dim y ((m.toNat - 1 : Nat) + 1) := rfl
  have h3 : ((m.toNat - 1 : Nat) : Int) + 1 = m := by omega
  rw [h3] at h2
  omega
theorem dn_nn {y m d : Int} (h : Valid y m d) : 0 ≤ dn y m d := by
  have h1 := yb_nn (y - 2000).toNat
  have h2 := mb_nn y (m.toNat - 1)
  have h3 := h.hd.1
  unfold dn
  omega
theorem date_of_s {y m d : Int} (h : Valid y m d) (μ : Sto) : M_date_of [.int (dn y m d)] μ = some (.ok (.tup [.int y, .int m, .int d]) μ) := by
  have hlt := mb_lt h
  have hnn := dn_nn h
  obtain ⟨hy, hm, hd⟩ := h
  unfold M_date_of B_date_of
  rw [fnS_s]
  generalize hn : dn y m d = n at hnn
  have hn' : d - 1 + yb (y - 2000).toNat + mb y (m.toNat - 1) = n := hn
  have e1 := wl_tg (t := bTst (bBin dGe (bVar 2) (bIf (bTru (bCallP M_is_leap (bCons (bVar 1) (bNil)))) (bCon (.int 366)) (bCon (.int 365))))) (b := cSeq (cAug 2 dISub (bIf (bTru (bCallP M_is_leap (bCons (bVar 1) (bNil)))) (bCon (.int 366)) (bCon (.int 365)))) (cAug 1 dIAdd (bCon (.int 1))))
    (fun i => [some (.int n), some (.int (2000 + i)), some (.int (n - yb i)), none]) (μ := μ) (y - 2000).toNat 1000 (by omega) (fun i hi => by
      have h1 : yb (i + 1) ≤ yb (y - 2000).toNat := yb_mono (by omega)
      have h2 : yb (i + 1) = yb i + ylen (2000 + i) := rfl
      have h3 := mb_nn y (m.toNat - 1)
      cases hl : leap (2000 + i) <;> simp [is_leap_s, purs, pur, trD, yb, ylen, hl] <;> simp [ylen, hl] at h2 <;> omega) (by
      have h4 : (2000 + ((y - 2000).toNat : Int)) = y := by omega
      simp only [h4]
      cases hl : leap y <;> simp [is_leap_s, purs, pur, trD, ylen, hl] <;> simp [ylen, hl] at hlt <;> omega)
  have h4 : (2000 + ((y - 2000).toNat : Int)) = y := by omega
  simp only [yb, Int.sub_zero, h4] at e1
  have e2 := wl_tg (t := bTst (bBin dGe (bVar 2) (bCallP M_days_in_month (bCons (bVar 1) (bCons (bVar 3) (bNil)))))) (b := cSeq (cAug 2 dISub (bCallP M_days_in_month (bCons (bVar 1) (bCons (bVar 3) (bNil))))) (cAug 3 dIAdd (bCon (.int 1))))
    (fun i => [some (.int n), some (.int y), some (.int (n - yb (y - 2000).toNat - mb y i)), some (.int (1 + i))]) (μ := μ) (m.toNat - 1) 1000 (by omega) (fun i hi => by
      have h1 : mb y (i + 1) ≤ mb y (m.toNat - 1) := mb_mono (by omega)
      have h2 : mb y (i + 1) = mb y i + dim y (i + 1) := rfl
      rw [Int.add_comm] at h2
      have h3 : (1 + (i : Int)) = i + 1 := by omega
      simp [dim_s y (1 + i) hy (by omega), purs, pur, trD, mb]
      rw [h3]
      omega) (by
      have h5 : (1 + ((m.toNat - 1 : Nat) : Int)) = m := by omega
      simp only [h5]
      simp [dim_s y m hy hm, purs, pur, trD]
      omega)
  have h5 : (1 + ((m.toNat - 1 : Nat) : Int)) = m := by omega
  simp only [mb, Int.sub_zero, h5] at e2
  have h6 : n - yb (y - 2000).toNat - mb y (m.toNat - 1) + 1 = d := by omega
  have h7 : ¬ n < 0 := by omega
  simp at e1 e2
  simp [h7, e1, e2, lamf, lamfs, h6]
end K01

set_option linter.all false
set_option maxRecDepth 100000
set_option maxHeartbeats 4000000
namespace K01
open PySem Mi L2 TL
theorem dim_le {y m d : Int} (h : Valid y m d) : d ≤ 31 := Int.le_trans h.hd.2 (dim_pos y m).2
theorem two_s {n : Int} (h : 0 ≤ n ∧ n < 100) : M_two_figures [.int n] [] = some (.ok (.str (two n)) []) := by
  unfold M_two_figures B_two_figures
  rw [fnS_s]
  have h1 : (n / 10).natAbs.log2 < 1920 := log2_ok (by omega)
  have h2 : (n % 10).natAbs.log2 < 1920 := log2_ok (by omega)
  have h3 := one_dig (i := n / 10) (by omega)
  have h4 := one_dig (i := n % 10) (by omega)
  simp [divOk, modOk, h1, h2, len_app, h3.1, h4.1, lamf, two]
def txt (y m d : Int) : Str := toS y ++ "-" ++ two m ++ "-" ++ two d
theorem dash : (Str.ofString "-").length = 1 := by decide +kernel
theorem told_date_s {y m d : Int} (h : Valid y m d) : M_told_date [.int (dn y m d)] [] = some (.ok (.str (txt y m d)) []) := by
  unfold M_told_date B_told_date
  rw [fnS_s]
  have h0 := dim_le h
  have h1 := h.hm
  have h2 := h.hd
  have h3 := h.hy
  have t1 := two_s (n := m) (by omega)
  have t2 := two_s (n := d) (by omega)
  have l1 := (two_dig (i := m) (by omega)).1
  have l2 := (two_dig (i := d) (by omega)).1
  have l3 := (year_dig (i := y) (by omega)).1
  have l4 : y.natAbs.log2 < 1920 := log2_ok (by omega)
  simp [date_of_s h, purs, pur, t1, t2, l1, l2, l3, l4, len_app, dash, lamf, txt]
theorem join3 (a b c : Str) : a ++ "-" ++ b ++ "-" ++ c = Txt.join "-" [a, b, c] := by
  rw [join_eq]
  apply ext_tl
  rw [tl_join]
  simp only [tl_append, List.map_cons, List.map_nil, joinL, List.append_assoc]
theorem join0 (a b c : Str) : Txt.join (Str.ofString "") [a, b, c] = a ++ b ++ c := by
  have e : Str.ofString "" = Str.empty := by decide +kernel
  rw [e, join_eq]
  apply ext_tl
  rw [tl_join]
  simp only [tl_append, List.map_cons, List.map_nil, joinL, List.append_assoc]
  rfl
theorem read_date_s {y m d : Int} (h : Valid y m d) : M_read_date [.str (txt y m d)] [] = some (.ok (.int (dn y m d)) []) := by
  unfold M_read_date B_read_date
  rw [fnS_s]
  have h0 := dim_le h
  have h1 := h.hm
  have h2 := h.hd
  have h3 := h.hy
  obtain ⟨l1, g1⟩ := two_dig (i := m) (by omega)
  obtain ⟨l2, g2⟩ := two_dig (i := d) (by omega)
  obtain ⟨l3, g3, i3⟩ := year_dig (i := y) (by omega)
  have i1 := two_int (i := m) (by omega)
  have i2 := two_int (i := d) (by omega)
  have lt : (txt y m d).length = 10 := by unfold txt; simp [len_app, l1, l2, l3, dash]
  have hs : Txt.split (txt y m d) "-" = [toS y, two m, two d] := by
    unfold txt
    rw [join3]
    refine split_join (s := 45) (S := []) (by decide +kernel) (by decide +kernel) (by simp) fun p hp => ?_
    simp only [List.mem_cons, List.not_mem_nil, or_false] at hp
    rcases hp with rfl | rfl | rfl
    · exact digB_no g3 (by omega)
    · exact digB_no g1 (by omega)
    · exact digB_no g2 (by omega)
  obtain ⟨bs, b1, b2⟩ := dig_anyS (z := toS y ++ two m ++ two d) (by rw [digB_app, digB_app, g1, g2, g3]; rfl)
  have e1 : dSplit [] (txt y m d) (.str "-") = some (.lst [.str (toS y), .str (two m), .str (two d)]) := by
    unfold dSplit
    dsimp only
    rw [if_pos ⟨by decide +kernel, by rw [lt]; decide⟩, hs]
    rfl
  have e2 : dJoin [] (Str.ofString "") (.lst [.str (toS y), .str (two m), .str (two d)]) = some (.str (toS y ++ two m ++ two d)) := by
    have ez : (Str.ofString "").length = 0 := by decide +kernel
    unfold dJoin
    simp only [sqD, vw, txtsD]
    rw [join0, if_pos (by simp [l1, l2, l3, ez])]
  have e3 : dNe [] (.lst [.int 4, .int 2, .int 2]) (.lst [.int 4, .int 2, .int 2]) = some (.bl false) := by rfl
  have e4 : anyR (qBin dNinT qVar (qCon (.str "0123456789"))) (gnItems [] (.str (toS y ++ two m ++ two d))) [] = some (.ok (.bl false) []) := by
    rw [gn_str]
    unfold anyR
    dsimp only
    rw [b1]
    dsimp only
    rw [b2]
  have d1 := day_of_s h
  have q1 : dLen [] [.str (toS y)] = some (.int 4) := by unfold dLen; dsimp only; rw [l3]; rfl
  have q2 : dLen [] [.str (two m)] = some (.int 2) := by unfold dLen; dsimp only; rw [l1]; rfl
  have q3 : dLen [] [.str (two d)] = some (.int 2) := by unfold dLen; dsimp only; rw [l2]; rfl
  have r1 : dInt [] [.str (toS y)] = some (.int y) := by unfold dInt; dsimp only; rw [l3, if_pos (by decide), i3]
  have r2 : dInt [] [.str (two m)] = some (.int m) := by unfold dInt; dsimp only; rw [l1, if_pos (by decide), i1]
  have r3 : dInt [] [.str (two d)] = some (.int d) := by unfold dInt; dsimp only; rw [l2, if_pos (by decide), i2]
  simp [e1, cl, wipeD, q1, q2, q3, e3, e2, e4, trD, atI, ixN, r1, r2, r3, purs, pur, d1, lamf]
end K01

set_option linter.all false
set_option maxRecDepth 100000
set_option maxHeartbeats 4000000
namespace K01
open PySem Mi L2
theorem long_s (y m : Int) (hm : 1 ≤ m ∧ m ≤ 12) : M__law_long [.int y, .int m] [] = some (.ok (.int (dim y m)) []) := by
  unfold M__law_long B__law_long
  rw [fnS_s]
  have e : leap y = (decide (y % 400 = 0) || (decide (y % 4 = 0) && !decide (y % 100 = 0))) := by
    unfold leap
    by_cases h1 : y % 4 = 0 <;> by_cases h2 : y % 100 = 0 <;> by_cases h3 : y % 400 = 0 <;> simp [h1, h2, h3] <;> omega
  have h : m = 1 ∨ m = 2 ∨ m = 3 ∨ m = 4 ∨ m = 5 ∨ m = 6 ∨ m = 7 ∨ m = 8 ∨ m = 9 ∨ m = 10 ∨ m = 11 ∨ m = 12 := by omega
  rcases h with rfl | rfl | rfl | rfl | rfl | rfl | rfl | rfl | rfl | rfl | rfl | rfl
  case inr.inl =>
    unfold dim
    rw [if_pos rfl, e]
    by_cases h1 : y % 4 = 0 <;> by_cases h2 : y % 100 = 0 <;> by_cases h3 : y % 400 = 0 <;> simp [modOk, h1, h2, h3, lamf]
  all_goals simp [dim, dIn, dInB, sqD, vw, flD, inF, eqF, lamf]
/-- the next day -/
def nxt (y m d : Int) : Int × Int × Int := if d < dim y m then (y, m, d + 1) else if m < 12 then (y, m + 1, 1) else (y + 1, 1, 1)
theorem next_s {y m d : Int} (h : Valid y m d) : M__law_next [.tup [.int y, .int m, .int d]] [] = some (.ok (.tup [.int (nxt y m d).1, .int (nxt y m d).2.1, .int (nxt y m d).2.2]) []) := by
  unfold M__law_next B__law_next nxt
  rw [fnS_s]
  by_cases h1 : d < dim y m <;> by_cases h2 : m < 12 <;> simp [long_s y m h.hm, purs, pur, h1, h2, lamf, lamfs]
theorem nxt_valid {y m d : Int} (h : Valid y m d) (hy : y < 2199) : Valid (nxt y m d).1 (nxt y m d).2.1 (nxt y m d).2.2 ∧ dn (nxt y m d).1 (nxt y m d).2.1 (nxt y m d).2.2 = dn y m d + 1 := by
  obtain ⟨hy1, hm, hd⟩ := h
  unfold nxt
  by_cases h1 : d < dim y m
  · rw [if_pos h1]
    refine ⟨⟨hy1, hm, ⟨?_, ?_⟩⟩, ?_⟩
    · show 1 ≤ d + 1; omega
    · show d + 1 ≤ dim y m; omega
    · show dn y m (d + 1) = _
      unfold dn; omega
  · rw [if_neg h1]
    have hde : d = dim y m := by omega
    by_cases h2 : m < 12
    · rw [if_pos h2]
      have hp := dim_pos y (m + 1)
      refine ⟨⟨hy1, ⟨?_, ?_⟩, ⟨?_, ?_⟩⟩, ?_⟩
      · show 1 ≤ m + 1; omega
      · show m + 1 ≤ 12; omega
      · show (1 : Int) ≤ 1; omega
      · show 1 ≤ dim y (m + 1); omega
      · show dn y (m + 1) 1 = _
        unfold dn
        have e1 : (m + 1).toNat - 1 = (m.toNat - 1) + 1 := by omega
        have e2 : mb y (m.toNat - 1 + 1) = mb y (m.toNat - 1) + dim y ((m.toNat - 1 : Nat) + 1) := rfl
        have e3 : ((m.toNat - 1 : Nat) : Int) + 1 = m := by omega
        rw [e3] at e2
        rw [e1, e2, hde]
        omega
    · rw [if_neg h2]
      have hm12 : m = 12 := by omega
      subst hm12
      have hp := dim_pos (y + 1) 1
      refine ⟨⟨⟨?_, ?_⟩, ⟨?_, ?_⟩, ⟨?_, ?_⟩⟩, ?_⟩
      · show 2000 ≤ y + 1; omega
      · show y + 1 ≤ 2199; omega
      · show (1 : Int) ≤ 1; omega
      · show (1 : Int) ≤ 12; omega
      · show (1 : Int) ≤ 1; omega
      · show 1 ≤ dim (y + 1) 1; omega
      · show dn (y + 1) 1 1 = _
        unfold dn
        have e1 : (y + 1 - 2000).toNat = (y - 2000).toNat + 1 := by omega
        have e2 : yb ((y - 2000).toNat + 1) = yb (y - 2000).toNat + ylen (2000 + ((y - 2000).toNat : Int)) := rfl
        have e3 : (2000 + ((y - 2000).toNat : Int)) = y := by omega
        rw [e3, ← mb12 y] at e2
        have e4 : mb y 12 = mb y 11 + dim y 12 := rfl
        have e5 : (12 : Int).toNat - 1 = 11 := rfl
        have e6 : (1 : Int).toNat - 1 = 0 := rfl
        rw [e1, e2, e4, e5, e6, hde]
        show (1 : Int) - 1 + (yb (y - 2000).toNat + (mb y 11 + dim y 12)) + 0 = _
        omega
/-! the law's number -/
def lpc (n : Nat) : Nat := ((List.range n).filter fun i => leap (2000 + (i : Nat))).length
theorem yb_lpc : ∀ n : Nat, yb n = 365 * n + lpc n
  | 0 => rfl
  | n + 1 => by
    have ih := yb_lpc n
    show yb n + ylen (2000 + n) = _
    unfold lpc ylen at *
    rw [List.range_succ, List.filter_append, List.length_append, ih]
    cases hl : leap (2000 + (n : Nat)) <;> simp [hl] <;> omega
theorem mb_sum (y : Int) : ∀ n : Nat, ((List.range n).map fun i => dim y (1 + (i : Nat))).sum = mb y n
  | 0 => rfl
  | n + 1 => by
    rw [List.range_succ, List.map_append, List.sum_append, mb_sum y n]
    have e : (1 + (n : Int)) = n + 1 := by omega
    simp [mb, e]
theorem intsD_map : ∀ (xs : List Int), intsD (xs.map .int) = some xs
  | [] => rfl
  | x :: xs => by show (match intsD (xs.map .int) with | some is => some (x :: is) | none => none) = _; rw [intsD_map xs]
theorem dSum_l {μ : Sto} {xs : List Int} : dSum μ [.lst (xs.map .int)] = some (.int xs.sum) := by
  show (match vw μ (.lst (xs.map .int)) with
    | some ys => (match intsD ys with | some ns => some (D.int ns.sum) | none => none)
    | none => none) = _
  simp only [vw, intsD_map]
theorem number_s {y m d : Int} (hy : 2000 ≤ y ∧ y ≤ 2199) (hm : 1 ≤ m ∧ m ≤ 12) : M__law_number [.tup [.int y, .int m, .int d]] [] = some (.ok (.int (dn y m d)) []) := by
  unfold M__law_number B__law_number
  rw [fnS_s]
  have q1 : -4611686018427387904 ≤ y ∧ y < 4611686018427387904 := by omega
  have q2 : -4611686018427387904 ≤ m ∧ m < 4611686018427387904 := by omega
  have c1 := cl_pure (t := tgName 5) (fc := bTst (bBin dEq (bCallP M__law_long (bCons (bVar 5) (bCons (bCon (.int 2)) (bNil)))) (bCon (.int 29)))) (fe := bVar 5) (ρ := [some (.tup [.int y, .int m, .int d]), some (.int y), some (.int m), some (.int d), none, none]) (μ := [])
    (fun x => match x with | .int i => leap i | _ => false) id (rngD 2000 (y - 2000).toNat) [] (fun x hx => by
      obtain ⟨i, hi, rfl⟩ := List.mem_iff_getElem.mp hx
      obtain ⟨h1, h2⟩ := rngD_get (List.getElem?_eq_getElem hi)
      rw [h2]
      refine ⟨_, rfl, ?_, fun _ => rfl⟩
      have e := long_s (2000 + (i : Nat)) 2 (by omega)
      cases hl : leap (2000 + (i : Nat)) <;> simp [e, purs, pur, dim, hl]) (by rw [rngD_len]; simp; omega)
  have c2 := fun (o : Option D) => cl_pure (t := tgName 5) (fc := bYes) (fe := bCallP M__law_long (bCons (bVar 1) (bCons (bVar 5) (bNil)))) (ρ := [some (.tup [.int y, .int m, .int d]), some (.int y), some (.int m), some (.int d), o, none]) (μ := [])
    (fun _ => true) (fun x => match x with | .int i => .int (dim y i) | _ => .non) (rngD 1 (m.toNat - 1)) [] (fun x hx => by
      obtain ⟨i, hi, rfl⟩ := List.mem_iff_getElem.mp hx
      obtain ⟨h1, h2⟩ := rngD_get (List.getElem?_eq_getElem hi)
      rw [h2]
      refine ⟨_, rfl, rfl, fun _ => ?_⟩
      have e := long_s y (1 + (i : Nat)) (by omega)
      simp [e, purs, pur]) (by rw [rngD_len]; simp; omega)
  have e1 : ((rngD 2000 (y - 2000).toNat).filter fun x => match x with | .int i => leap i | _ => false).length = lpc (y - 2000).toNat := by
    rw [rngD, List.filter_map, List.length_map]
    rfl
  have e2 : ((rngD 1 (m.toNat - 1)).filter fun _ => true).map (fun x => match x with | .int i => D.int (dim y i) | _ => .non) = (((List.range (m.toNat - 1)).map fun i => dim y (1 + (i : Nat))).map .int) := by
    rw [List.filter_eq_self.mpr (by simp), rngD, List.map_map, List.map_map]
    rfl
  simp only [List.nil_append] at c1 c2
  have e3 : (y - 2000).toNat = y - 2000 := by omega
  have e4 := yb_lpc (y - 2000).toNat
  rw [List.map_id] at c1
  have c3 := c2 (some (.int (lpc (y - 2000).toNat)))
  rw [e2] at c3
  simp [-List.map_map, q1, q2, wipeD, c1, c3, e1, dSum_l, mulOk, lamf, mb_sum]
  unfold dn
  omega
end K01

set_option linter.all false
set_option maxRecDepth 100000
set_option maxHeartbeats 4000000
namespace K01
open PySem Mi L2
theorem dn_inj {y m d y' m' d' : Int} (h : Valid y m d) (h' : Valid y' m' d') (e : dn y m d = dn y' m' d') : y = y' ∧ m = m' ∧ d = d' := by
  have h1 := date_of_s h []
  rw [e, date_of_s h' []] at h1
  simp at h1
  exact ⟨h1.1.symm, h1.2.1.symm, h1.2.2.symm⟩
theorem yb_find (n : Int) (h0 : 0 ≤ n) : ∀ k : Nat, n < yb k → ∃ j, j < k ∧ yb j ≤ n ∧ n < yb (j + 1)
  | 0, h => by simp [yb] at h; omega
  | k + 1, h => by
    by_cases e : n < yb k
    · obtain ⟨j, h1, h2⟩ := yb_find n h0 k e
      exact ⟨j, by omega, h2⟩
    · exact ⟨k, by omega, by omega, h⟩
theorem mb_find (y n : Int) (h0 : 0 ≤ n) : ∀ k : Nat, n < mb y k → ∃ j, j < k ∧ mb y j ≤ n ∧ n < mb y (j + 1)
  | 0, h => by simp [mb] at h; omega
  | k + 1, h => by
    by_cases e : n < mb y k
    · obtain ⟨j, h1, h2⟩ := mb_find y n h0 k e
      exact ⟨j, by omega, h2⟩
    · exact ⟨k, by omega, by omega, h⟩
theorem date_ex {n : Int} (h0 : 0 ≤ n) (h1 : n < yb 200) : ∃ y m d, Valid y m d ∧ dn y m d = n := by
  obtain ⟨j, hj, a1, a2⟩ := yb_find n h0 200 h1
  have a3 : yb (j + 1) = yb j + ylen (2000 + j) := rfl
  rw [a3, ← mb12] at a2
  obtain ⟨i, hi, b1, b2⟩ := mb_find (2000 + j) (n - yb j) (by omega) 12 (by omega)
  have b3 : mb (2000 + j) (i + 1) = mb (2000 + j) i + dim (2000 + j) (i + 1) := rfl
  refine ⟨2000 + j, i + 1, n - yb j - mb (2000 + j) i + 1, ⟨by omega, by omega, by omega⟩, ?_⟩
  unfold dn
  have e1 : (2000 + (j : Int) - 2000).toNat = j := by omega
  have e2 : ((i : Int) + 1).toNat - 1 = i := by omega
  rw [e1, e2]
  omega
/-! spans -/
def sortS : Nat → Str
  | 0 => "week"
  | 1 => "two weeks"
  | 2 => "half month"
  | _ => "month"
def sp (s : Nat) (a : Int) (y m d : Int) : Int × Int := match s with
  | 0 => (dn y m d - (dn y m d - a) % 7, dn y m d - (dn y m d - a) % 7 + 7 - 1)
  | 1 => (dn y m d - (dn y m d - a) % 14, dn y m d - (dn y m d - a) % 14 + 14 - 1)
  | 2 => if d ≤ 15 then (dn y m d - d + 1, dn y m d - d + 15) else (dn y m d - d + 16, dn y m d - d + dim y m)
  | _ => (dn y m d - d + 1, dn y m d - d + dim y m)
abbrev pr (p : Int × Int) : D := .tup [.int p.1, .int p.2]
theorem period_of_s (s : Nat) (hs : s < 4) (a : Int) {y m d : Int} (h : Valid y m d) : M_period_of [.str (sortS s), .int (dn y m d), .int a] [] = some (.ok (pr (sp s a y m d)) []) := by
  unfold M_period_of B_period_of
  rw [fnS_s]
  have e := date_of_s h []
  have e2 := dim_s y m h.hy h.hm
  have hc : s = 0 ∨ s = 1 ∨ s = 2 ∨ s = 3 := by omega
  rcases hc with rfl | rfl | rfl | rfl
  · have i1 : dNin [] (.str (Str.ofString "week")) k_SORTS_OF_PERIOD = some (.bl false) := by rfl
    have i2 : dIn [] (.str (Str.ofString "week")) (.tup [.str "week", .str "two weeks"]) = some (.bl true) := by rfl
    simp [sortS, i1, i2, e, purs, pur, modOk, lamf, lamfs, sp]
  · have i1 : dNin [] (.str (Str.ofString "two weeks")) k_SORTS_OF_PERIOD = some (.bl false) := by rfl
    have i2 : dIn [] (.str (Str.ofString "two weeks")) (.tup [.str "week", .str "two weeks"]) = some (.bl true) := by rfl
    have i3 : ¬ Str.ofString "two weeks" = Str.ofString "week" := by decide +kernel
    simp [sortS, i1, i2, i3, e, purs, pur, modOk, lamf, lamfs, sp]
  · have i1 : dNin [] (.str (Str.ofString "half month")) k_SORTS_OF_PERIOD = some (.bl false) := by rfl
    have i2 : dIn [] (.str (Str.ofString "half month")) (.tup [.str "week", .str "two weeks"]) = some (.bl false) := by rfl
    have i3 : ¬ Str.ofString "half month" = Str.ofString "month" := by decide +kernel
    by_cases hd : d ≤ 15 <;> simp [sortS, i1, i2, i3, e, e2, purs, pur, modOk, lamf, lamfs, sp, hd] <;> omega
  · have i1 : dNin [] (.str (Str.ofString "month")) k_SORTS_OF_PERIOD = some (.bl false) := by rfl
    have i2 : dIn [] (.str (Str.ofString "month")) (.tup [.str "week", .str "two weeks"]) = some (.bl false) := by rfl
    simp [sortS, i1, i2, e, e2, purs, pur, modOk, lamf, lamfs, sp]
    omega
theorem rngD_app (lo : Int) : ∀ (a b : Nat), rngD lo (a + b) = rngD lo a ++ rngD (lo + a) b := fun a b => by
  unfold rngD
  rw [List.range_add, List.map_append, List.map_map]
  congr 1
  apply List.map_congr_left
  intro i _
  show D.int (lo + ((a + i : Nat) : Int)) = D.int (lo + a + i)
  congr 1
  omega
theorem filt_ix (lo : Int) (n : Nat) (p : D → Bool) (j : Nat) (hj : j < n) (hp : p (.int (lo + j)) = true) (hb : ∀ i : Nat, i < j → p (.int (lo + i)) = false) : atI ((rngD lo n).filter p) 0 = some (.int (lo + j)) := by
  obtain ⟨k, rfl⟩ : ∃ k, n = j + (1 + k) := ⟨n - j - 1, by omega⟩
  rw [rngD_app, List.filter_append, rngD_app]
  have h1 : (rngD lo j).filter p = [] := by
    rw [List.filter_eq_nil_iff]
    intro x hx
    obtain ⟨i, hi, rfl⟩ := List.mem_iff_getElem.mp hx
    obtain ⟨h1, h2⟩ := rngD_get (List.getElem?_eq_getElem hi)
    rw [h2, hb i h1]
    decide
  have h2 : rngD (lo + j) 1 = [.int (lo + j)] := by simp [rngD]
  rw [h1, h2, List.nil_append, List.filter_append]
  simp [hp, atI, ixN]
theorem law_span_s (s : Nat) (hs : s < 4) (a : Int) {y m d : Int} (h : Valid y m d) : M__law_span [.str (sortS s), .tup [.int y, .int m, .int d], .int a] [] = some (.ok (pr (sp s a y m d)) []) := by
  unfold M__law_span B__law_span
  rw [fnS_s]
  have e := number_s (d := d) h.hy h.hm
  have e2 := long_s y m h.hm
  have hnn := dn_nn h
  have hub : dn y m d < 4000000 := by
    have h1 := mb_lt h
    have h2 := ylen_b y
    have h3 : yb (y - 2000).toNat ≤ yb 200 := yb_mono (by have := h.hy; omega)
    have h4 := yb_lpc 200
    have h5 : lpc 200 ≤ 200 := by
      unfold lpc
      have := List.length_filter_le (fun i => leap (2000 + (i : Nat))) (List.range 200)
      rw [List.length_range] at this
      exact this
    unfold dn
    omega
  have hc : s = 0 ∨ s = 1 ∨ s = 2 ∨ s = 3 := by omega
  generalize hn : dn y m d = n at *
  have key : ∀ (L : Int), L = 7 ∨ L = 14 → ∀ (ρ : En), ρ[10]? = some none → ρ[2]? = some (some (.int a)) → ρ[8]? = some (some (.int L)) →
      ∃ xs, cl (tgName 10) (bTst (bBin dEq (bBin dMod (bBin dSub (bVar 10) (bVar 2)) (bVar 8)) (bCon (.int 0)))) (bVar 10) (rngD (n - L + 1) (n + 1 - (n - L + 1)).toNat) [] ρ [] = some (.ok xs []) ∧ atI xs 0 = some (.int (n - (n - a) % L)) := by
    intro L hL ρ r10 r2 r8
    have hl : 10 < ρ.length := (List.getElem?_eq_some_iff.mp r10).1
    have c := cl_pure (t := tgName 10) (fc := bTst (bBin dEq (bBin dMod (bBin dSub (bVar 10) (bVar 2)) (bVar 8)) (bCon (.int 0)))) (fe := bVar 10) (ρ := ρ) (μ := []) (fun x => match x with | .int i => decide ((i - a) % L = 0) | _ => false) id (rngD (n - L + 1) (n + 1 - (n - L + 1)).toNat) [] (fun x hx => by
      obtain ⟨i, hi, rfl⟩ := List.mem_iff_getElem.mp hx
      obtain ⟨h1, h2⟩ := rngD_get (List.getElem?_eq_getElem hi)
      rw [h2]
      refine ⟨_, rfl, ?_, fun _ => ?_⟩
      · rcases hL with rfl | rfl <;> simp [List.getElem?_set, r2, r8, hl, modOk]
      · simp [List.getElem?_set, hl]) (by rw [rngD_len]; simp; rcases hL with rfl | rfl <;> omega)
    rw [List.nil_append, List.map_id] at c
    refine ⟨_, c, ?_⟩
    have := filt_ix (n - L + 1) (n + 1 - (n - L + 1)).toNat (fun x => match x with | .int i => decide ((i - a) % L = 0) | _ => false) (L - 1 - (n - a) % L).toNat (by rcases hL with rfl | rfl <;> omega) (by
      simp only [decide_eq_true_eq]
      rcases hL with rfl | rfl <;> omega) (fun i hi => by
      simp only [decide_eq_false_iff_not]
      rcases hL with rfl | rfl <;> omega)
    rw [this]
    congr 2
    rcases hL with rfl | rfl <;> omega
  rcases hc with rfl | rfl | rfl | rfl
  · have i2 : dIn [] (.str (Str.ofString "week")) (.lst [.str "week", .str "two weeks"]) = some (.bl true) := by rfl
    have i3 : dGet [] (.dct [.inr (Str.ofString "week"), .inr (Str.ofString "two weeks")] [.int 7, .int 14]) (.str (Str.ofString "week")) = some (.int 7) := by rfl
    have i4 : ¬ Str.ofString "week" = Str.ofString "two weeks" := by decide +kernel
    obtain ⟨xs, k1, k2⟩ := key 7 (.inl rfl) [some (.str (Str.ofString "week")), some (.tup [.int y, .int m, .int d]), some (.int a), some (.int y), some (.int m), some (.int d), some (.int n), some (.int (dim y m)), some (.int 7), none, none, none, none] rfl rfl rfl
    have q1 : -4611686018427387904 ≤ n - 7 + 1 ∧ n - 7 + 1 < 4611686018427387904 := by omega
    have q2 : -4611686018427387904 ≤ n + 1 ∧ n + 1 < 4611686018427387904 := by omega
    simp [sortS, i2, i3, i4, e, e2, purs, pur, wipeD, q1, q2, k1, k2, lamf, lamfs, sp, hn]
  · have i2 : dIn [] (.str (Str.ofString "two weeks")) (.lst [.str "week", .str "two weeks"]) = some (.bl true) := by rfl
    have i3 : dGet [] (.dct [.inr (Str.ofString "week"), .inr (Str.ofString "two weeks")] [.int 7, .int 14]) (.str (Str.ofString "two weeks")) = some (.int 14) := by rfl
    have i4 : ¬ Str.ofString "week" = Str.ofString "two weeks" := by decide +kernel
    obtain ⟨xs, k1, k2⟩ := key 14 (.inr rfl) [some (.str (Str.ofString "two weeks")), some (.tup [.int y, .int m, .int d]), some (.int a), some (.int y), some (.int m), some (.int d), some (.int n), some (.int (dim y m)), some (.int 14), none, none, none, none] rfl rfl rfl
    have q1 : -4611686018427387904 ≤ n - 14 + 1 ∧ n - 14 + 1 < 4611686018427387904 := by omega
    have q2 : -4611686018427387904 ≤ n + 1 ∧ n + 1 < 4611686018427387904 := by omega
    simp [sortS, i2, i3, i4, e, e2, purs, pur, wipeD, q1, q2, k1, k2, lamf, lamfs, sp, hn]
  · have i2 : dIn [] (.str (Str.ofString "half month")) (.lst [.str "week", .str "two weeks"]) = some (.bl false) := by rfl
    have i3 : ¬ Str.ofString "half month" = Str.ofString "month" := by decide +kernel
    by_cases hd : d ≤ 15
    · have hd2 : d < 16 := by omega
      simp [sortS, i2, i3, e, e2, purs, pur, lamf, lamfs, sp, hn, hd, hd2]
    · have hd2 : ¬ d < 16 := by omega
      simp [sortS, i2, i3, e, e2, purs, pur, lamf, lamfs, sp, hn, hd, hd2]
  · have i2 : dIn [] (.str (Str.ofString "month")) (.lst [.str "week", .str "two weeks"]) = some (.bl false) := by rfl
    simp [sortS, i2, e, e2, purs, pur, lamf, lamfs, sp, hn]
end K01

set_option linter.all false
set_option maxRecDepth 100000
set_option maxHeartbeats 4000000
namespace K01
open PySem Mi L2
/-! months moved -/
def mv (y m d k : Int) : Int := dn ((12 * y + m - 1 + k) / 12) ((12 * y + m - 1 + k) % 12 + 1) d
theorem moved_s {y m d k : Int} (h : Valid y m d) (hd : d ≤ 28) (hk : 24000 ≤ 12 * y + m - 1 + k ∧ 12 * y + m - 1 + k ≤ 26399) :
    M_moved_months [.int (dn y m d), .int k] [] = some (.ok (.int (mv y m d k)) []) ∧ M__law_moved [.tup [.int y, .int m, .int d], .int k] [] = some (.ok (.int (mv y m d k)) []) := by
  have hy' : 2000 ≤ (12 * y + m - 1 + k) / 12 ∧ (12 * y + m - 1 + k) / 12 ≤ 2199 := by omega
  have hm' : 1 ≤ (12 * y + m - 1 + k) % 12 + 1 ∧ (12 * y + m - 1 + k) % 12 + 1 ≤ 12 := by omega
  have hp := dim_pos ((12 * y + m - 1 + k) / 12) ((12 * y + m - 1 + k) % 12 + 1)
  have e1 := dim_s _ _ hy' hm'
  have e2 := long_s ((12 * y + m - 1 + k) / 12) _ hm'
  have e3 := day_of_s (y := (12 * y + m - 1 + k) / 12) (m := (12 * y + m - 1 + k) % 12 + 1) (d := d) ⟨hy', hm', ⟨h.hd.1, by omega⟩⟩
  have e4 := number_s (d := d) hy' hm'
  have e5 := date_of_s h []
  have hn : ¬ dim ((12 * y + m - 1 + k) / 12) ((12 * y + m - 1 + k) % 12 + 1) < d := by omega
  constructor
  · unfold M_moved_months B_moved_months
    rw [fnS_s]
    simp [e5, purs, pur, mulOk, divOk, modOk, atI, ixN, e1, hn, e3, lamf, mv]
  · unfold M__law_moved B__law_moved
    rw [fnS_s]
    simp [purs, pur, mulOk, divOk, modOk, atI, ixN, e2, hn, e4, lamf, mv]
theorem dn_d (y m d : Int) : dn y m d = dn y m 1 + d - 1 := by unfold dn; omega
theorem mv_zero {y m d : Int} (hm : 1 ≤ m ∧ m ≤ 12) : mv y m d 0 = dn y m d := by
  unfold mv
  have e1 : (12 * y + m - 1 + 0) / 12 = y := by omega
  have e2 : (12 * y + m - 1 + 0) % 12 + 1 = m := by omega
  rw [e1, e2]
theorem ms_step {p : Int} (hp : 24000 ≤ p) (d : Int) : dn ((p + 1) / 12) ((p + 1) % 12 + 1) d = dn (p / 12) (p % 12 + 1) d + dim (p / 12) (p % 12 + 1) := by
  by_cases h : p % 12 = 11
  · have e1 : (p + 1) / 12 = p / 12 + 1 := by omega
    have e2 : (p + 1) % 12 = 0 := by omega
    rw [e1, e2, h]
    unfold dn
    have e3 : (p / 12 + 1 - 2000).toNat = (p / 12 - 2000).toNat + 1 := by omega
    have e4 : yb ((p / 12 - 2000).toNat + 1) = yb (p / 12 - 2000).toNat + ylen (2000 + ((p / 12 - 2000).toNat : Int)) := rfl
    have e5 : (2000 + ((p / 12 - 2000).toNat : Int)) = p / 12 := by omega
    have e6 : mb (p / 12) 12 = mb (p / 12) 11 + dim (p / 12) 12 := rfl
    rw [e5, ← mb12, e6] at e4
    rw [e3, e4]
    have e7 : ((0 : Int) + 1).toNat - 1 = 0 := rfl
    have e8 : ((11 : Int) + 1).toNat - 1 = 11 := rfl
    rw [e7, e8]
    show d - 1 + (yb (p / 12 - 2000).toNat + (mb (p / 12) 11 + dim (p / 12) 12)) + 0 = d - 1 + yb (p / 12 - 2000).toNat + mb (p / 12) 11 + dim (p / 12) 12
    omega
  · have e1 : (p + 1) / 12 = p / 12 := by omega
    have e2 : (p + 1) % 12 = p % 12 + 1 := by omega
    rw [e1, e2]
    unfold dn
    have e3 : (p % 12 + 1 + 1).toNat - 1 = ((p % 12 + 1).toNat - 1) + 1 := by omega
    have e4 : mb (p / 12) ((p % 12 + 1).toNat - 1 + 1) = mb (p / 12) ((p % 12 + 1).toNat - 1) + dim (p / 12) (((p % 12 + 1).toNat - 1 : Nat) + 1) := rfl
    have e5 : (((p % 12 + 1).toNat - 1 : Nat) : Int) + 1 = p % 12 + 1 := by omega
    rw [e5] at e4
    rw [e3, e4]
    omega
theorem mv_step {y m d : Int} (hy : 2000 ≤ y) (hm : 1 ≤ m) (k : Nat) : mv y m d k + 28 ≤ mv y m d (k + 1 : Nat) := by
  unfold mv
  have e : 12 * y + m - 1 + ((k + 1 : Nat) : Int) = 12 * y + m - 1 + k + 1 := by omega
  rw [e, ms_step (by omega)]
  have := dim_pos ((12 * y + m - 1 + k) / 12) ((12 * y + m - 1 + k) % 12 + 1)
  omega
theorem mv_add {y m d : Int} (hy : 2000 ≤ y) (hm : 1 ≤ m) (k : Nat) : ∀ j : Nat, mv y m d k + 28 * j ≤ mv y m d (k + j : Nat)
  | 0 => by simp
  | j + 1 => by
    have h1 := mv_add hy hm (d := d) k j
    have h2 := mv_step hy hm (d := d) (k + j)
    have e : k + (j + 1) = k + j + 1 := by omega
    rw [e]
    push_cast at *
    omega
/-- the whole months -/
theorem whole_ex {y m d T : Int} (hy : 2000 ≤ y) (hm : 1 ≤ m ∧ m ≤ 12) (h0 : dn y m d ≤ T) (h1 : T < dn y m d + 900) : ∃ W : Nat, W < 39 ∧ ∀ k : Nat, mv y m d k ≤ T ↔ k ≤ W := by
  have hz := mv_zero (y := y) (d := d) hm
  have key : ∀ n : Nat, ∃ W : Nat, W ≤ n ∧ mv y m d W ≤ T ∧ (W = n ∨ ¬ mv y m d (W + 1 : Nat) ≤ T) := by
    intro n
    induction n with
    | zero => exact ⟨0, Nat.le_refl _, by simpa [hz] using h0, .inl rfl⟩
    | succ n ih =>
      obtain ⟨W, a, b, c⟩ := ih
      rcases c with c | c
      · subst c
        by_cases e : mv y m d (W + 1 : Nat) ≤ T
        · exact ⟨W + 1, Nat.le_refl _, e, .inl rfl⟩
        · exact ⟨W, by omega, b, .inr e⟩
      · exact ⟨W, by omega, b, .inr c⟩
  obtain ⟨W, a, b, c⟩ := key 39
  have hW : W < 39 := by
    have := mv_add hy hm.1 (d := d) 0 W
    simp [hz] at this
    omega
  rcases c with c | c
  · omega
  refine ⟨W, hW, fun k => ⟨fun h => ?_, fun h => ?_⟩⟩
  · by_cases e : k ≤ W
    · exact e
    · have := mv_add hy hm.1 (d := d) (W + 1) (k - (W + 1))
      have e2 : W + 1 + (k - (W + 1)) = k := by omega
      rw [e2] at this
      omega
  · have := mv_add hy hm.1 (d := d) k (W - k)
    have e2 : k + (W - k) = W := by omega
    rw [e2] at this
    omega
theorem whole_s {y m d T : Int} (h : Valid y m d) (hy : y ≤ 2190) (hd : d ≤ 28) {W : Nat} (hW : W < 39) (hk : ∀ k : Nat, mv y m d k ≤ T ↔ k ≤ W) : M_whole_months [.int (dn y m d), .int T] [] = some (.ok (.int W) []) := by
  unfold M_whole_months B_whole_months
  rw [fnS_s]
  have h0 : ¬ T < dn y m d := by
    have := (hk 0).mpr (Nat.zero_le _)
    have hz := mv_zero (y := y) (d := d) h.hm
    simp [hz] at this
    omega
  have e1 := wl_tg (t := bTst (bBin dLe (bCallP M_moved_months (bCons (bVar 0) (bCons (bBin dAdd (bVar 2) (bCon (.int 1))) (bNil)))) (bVar 1))) (b := cAug 2 dIAdd (bCon (.int 1))) (fun i => [some (.int (dn y m d)), some (.int T), some (.int (i : Nat))]) (μ := []) W 1000 (by omega) (fun i hi => by
      have := h.hy
      have := h.hm
      have e := (moved_s (k := ((i : Nat) : Int) + 1) h hd (by omega)).1
      have e2 := (hk (i + 1)).mpr (by omega)
      push_cast at e2
      simp [e, purs, pur, e2]) (by
      have := h.hy
      have := h.hm
      have e := (moved_s (k := ((W : Nat) : Int) + 1) h hd (by omega)).1
      have e2 := mt (hk (W + 1)).mp (by omega)
      push_cast at e2
      simp [e, purs, pur]
      omega)
  have e2 : wl (bTst (bBin dLe (bCallP M_moved_months (bCons (bVar 0) (bCons (bBin dAdd (bVar 2) (bCon (.int 1))) (bNil)))) (bVar 1))) (cAug 2 dIAdd (bCon (.int 1))) 1000 [some (.int (dn y m d)), some (.int T), some (.int 0)] [] = _ := e1
  simp [h0, e2, lamf]
end K01

set_option linter.all false
set_option maxRecDepth 100000
set_option maxHeartbeats 4000000
namespace K01
open PySem Mi L2
/-! shares of days -/
def cntB (f l : Int) (x : D) : Bool := match x with | .int i => decide (f ≤ i) && decide (i ≤ l) | _ => false
theorem rngD_snoc (lo : Int) (n : Nat) : rngD lo (n + 1) = rngD lo n ++ [.int (lo + n)] := by
  unfold rngD
  rw [List.range_succ, List.map_append]
  rfl
def mx (a b : Int) : Int := if b > a then b else a
def mn (a b : Int) : Int := if b < a then b else a
theorem cnt_len (lo f l : Int) : ∀ n : Nat, (((rngD lo n).filter (cntB f l)).length : Int) = mx 0 (mn (lo + n - 1) l - mx lo f + 1)
  | 0 => by
    simp [rngD, mx, mn]
    split <;> split <;> (try split) <;> omega
  | n + 1 => by
    have ih := cnt_len lo f l n
    rw [rngD_snoc, List.filter_append, List.length_append]
    push_cast
    rw [ih]
    by_cases h : f ≤ lo + n ∧ lo + n ≤ l
    · have e : cntB f l (.int (lo + n)) = true := by simp [cntB, h.1, h.2]
      simp only [List.filter_cons, e, if_true, List.filter_nil, List.length_singleton]
      unfold mx mn
      split <;> split <;> split <;> split <;> (try split) <;> (try split) <;> omega
    · have e : cntB f l (.int (lo + n)) = false := by
        simp only [cntB, Bool.and_eq_false_iff, decide_eq_false_iff_not]
        omega
      simp only [List.filter_cons, e, List.filter_nil]
      unfold mx mn
      simp only [Bool.false_eq_true, if_false, List.length_nil]
      split <;> split <;> split <;> split <;> (try split) <;> (try split) <;> omega
theorem share_s {lo hi f l : Int} (h1 : lo ≤ hi) (h2 : f ≤ l) : M_share_of_days [.int lo, .int hi, pr (f, l)] [] = some (.ok (.tup [.int (mx 0 (mn hi l - mx lo f + 1)), .int (l - f + 1)]) []) := by
  unfold M_share_of_days B_share_of_days
  rw [fnS_s]
  have a1 : ¬ hi < lo := by omega
  have a2 : ¬ l < f := by omega
  simp [a1, a2, atI, ixN, lamf, lamfs, mx, mn]
/-! the span of a day -/
open Classical in
noncomputable def S (s : Nat) (a n : Int) : Int × Int := if h : ∃ p : Int × Int × Int, Valid p.1 p.2.1 p.2.2 ∧ dn p.1 p.2.1 p.2.2 = n then sp s a h.choose.1 h.choose.2.1 h.choose.2.2 else (0, 0)
theorem S_dn (s : Nat) (a : Int) {y m d : Int} (h : Valid y m d) : S s a (dn y m d) = sp s a y m d := by
  unfold S
  have hx : ∃ p : Int × Int × Int, Valid p.1 p.2.1 p.2.2 ∧ dn p.1 p.2.1 p.2.2 = dn y m d := ⟨(y, m, d), h, rfl⟩
  rw [dif_pos hx]
  obtain ⟨h1, h2⟩ := hx.choose_spec
  obtain ⟨e1, e2, e3⟩ := dn_inj h1 h h2
  rw [e1, e2, e3]
theorem sp_bounds (s : Nat) (a : Int) {y m d : Int} (h : Valid y m d) : (sp s a y m d).1 ≤ dn y m d ∧ dn y m d ≤ (sp s a y m d).2 ∧ (sp s a y m d).2 ≤ dn y m d + 30 := by
  have hd := h.hd
  have hp := dim_pos y m
  unfold sp
  split
  · dsimp only; omega
  · dsimp only; omega
  · split
    · dsimp only; omega
    · dsimp only; omega
  · dsimp only; omega
theorem S_in (s : Nat) (a : Int) {n : Int} (h0 : 0 ≤ n) (h1 : n < yb 200) : (S s a n).1 ≤ n ∧ n ≤ (S s a n).2 ∧ (S s a n).2 ≤ n + 30 := by
  obtain ⟨y, m, d, hv, rfl⟩ := date_ex h0 h1
  rw [S_dn s a hv]
  exact sp_bounds s a hv
theorem S_eq (s : Nat) (a : Int) {n k : Int} (h0 : 0 ≤ n) (h1 : n < yb 200) (k0 : 0 ≤ k) (k1 : k < yb 200) (hk : (S s a n).1 ≤ k ∧ k ≤ (S s a n).2) : S s a k = S s a n := by
  obtain ⟨y, m, d, hv, rfl⟩ := date_ex h0 h1
  rw [S_dn s a hv] at hk ⊢
  have same : ∀ d' : Int, 1 ≤ d' → d' ≤ dim y m → k = dn y m d - d + d' → Valid y m d' ∧ dn y m d' = k := fun d' a1 a2 e => ⟨⟨hv.hy, hv.hm, a1, a2⟩, by unfold dn at *; omega⟩
  have hd := hv.hd
  match s with
  | 0 =>
    obtain ⟨y', m', d', hv', rfl⟩ := date_ex k0 k1
    rw [S_dn 0 a hv']
    simp only [sp] at hk ⊢
    generalize dn y m d = n at *
    generalize dn y' m' d' = k at *
    congr 1 <;> omega
  | 1 =>
    obtain ⟨y', m', d', hv', rfl⟩ := date_ex k0 k1
    rw [S_dn 1 a hv']
    simp only [sp] at hk ⊢
    generalize dn y m d = n at *
    generalize dn y' m' d' = k at *
    congr 1 <;> omega
  | 2 =>
    have hp := dim_pos y m
    by_cases h15 : d ≤ 15
    · simp only [sp, if_pos h15] at hk ⊢
      obtain ⟨v, e⟩ := same (k - dn y m d + d) (by omega) (by omega) (by omega)
      rw [← e, S_dn 2 a v]
      have : k - dn y m d + d ≤ 15 := by omega
      simp only [sp, if_pos this]
      rw [e]
      congr 1 <;> omega
    · simp only [sp, if_neg h15] at hk ⊢
      obtain ⟨v, e⟩ := same (k - dn y m d + d) (by omega) (by omega) (by omega)
      rw [← e, S_dn 2 a v]
      have : ¬ k - dn y m d + d ≤ 15 := by omega
      simp only [sp, if_neg this]
      rw [e]
      congr 1 <;> omega
  | s + 3 =>
    simp only [sp] at hk ⊢
    obtain ⟨v, e⟩ := same (k - dn y m d + d) (by omega) (by omega) (by omega)
    rw [← e, S_dn (s + 3) a v]
    simp only [sp]
    rw [e]
    congr 1 <;> omega
/-- spans meet -/
theorem S_meet (s : Nat) (a : Int) {n : Int} (h0 : 0 ≤ n) (h1 : n + 1 < yb 200) : S s a (n + 1) = S s a n ∨ ((S s a n).2 = n ∧ (S s a (n + 1)).1 = n + 1) := by
  obtain ⟨a1, a2, a3⟩ := S_in s a h0 (by omega)
  obtain ⟨b1, b2, b3⟩ := S_in s a (n := n + 1) (by omega) h1
  by_cases e : n + 1 ≤ (S s a n).2
  · exact .inl (S_eq s a h0 (by omega) (by omega) h1 ⟨by omega, e⟩)
  · by_cases e2 : (S s a (n + 1)).1 ≤ n
    · exact .inl (S_eq s a (n := n + 1) (by omega) h1 h0 (by omega) ⟨e2, by omega⟩).symm
    · exact .inr ⟨by omega, by omega⟩
theorem yb200 : 70000 < yb 200 := by
  have := yb_lpc 200
  omega
end K01

set_option linter.all false
set_option maxRecDepth 100000
set_option maxHeartbeats 4000000
namespace K01
open PySem Mi L2
/-- the first days of the spans of a year -/
noncomputable def hs (s : Nat) (a F : Int) : Nat → Int
  | 0 => F
  | i + 1 => (S s a (hs s a F i)).2 + 1
theorem hs_grow {s : Nat} {a F : Int} (h0 : 0 ≤ F) : ∀ n : Nat, (∀ i < n, hs s a F i < yb 200) → F + n ≤ hs s a F n
  | 0, _ => by simp [hs]
  | n + 1, h => by
    have ih := hs_grow (s := s) (a := a) h0 n fun i hi => h i (by omega)
    have := (S_in s a (n := hs s a F n) (by omega) (h n (by omega))).2.1
    show F + _ ≤ (S s a (hs s a F n)).2 + 1
    push_cast
    omega
theorem hs_stop {s : Nat} {a F L : Int} (h0 : 0 ≤ F) (hF : F ≤ L) (hL : L < yb 200) (hL2 : L ≤ F + 370) : ∃ N : Nat, 0 < N ∧ N < 400 ∧ (∀ i < N, hs s a F i ≤ L) ∧ L < hs s a F N := by
  have key : ∀ n : Nat, (∀ i ≤ n, hs s a F i ≤ L) ∨ ∃ N : Nat, N ≤ n ∧ (∀ i < N, hs s a F i ≤ L) ∧ L < hs s a F N := by
    intro n
    induction n with
    | zero =>
      left
      intro i hi
      have : i = 0 := by omega
      subst this
      exact hF
    | succ n ih =>
      rcases ih with ih | ⟨N, a1, a2, a3⟩
      · by_cases e : hs s a F (n + 1) ≤ L
        · left
          intro i hi
          by_cases e2 : i = n + 1
          · subst e2; exact e
          · exact ih i (by omega)
        · exact .inr ⟨n + 1, Nat.le_refl _, fun i hi => ih i (by omega), by omega⟩
      · exact .inr ⟨N, by omega, a2, a3⟩
  rcases key 380 with h | ⟨N, a1, a2, a3⟩
  · have := hs_grow (s := s) (a := a) h0 380 fun i hi => by have := h i (by omega); omega
    have := h 380 (Nat.le_refl _)
    omega
  · refine ⟨N, ?_, by omega, a2, a3⟩
    cases N with
    | zero => simp [hs] at a3; omega
    | succ n => omega
noncomputable def fnd (s : Nat) (a F L : Int) (i : Nat) : List D := (((List.range i).map fun j => S s a (hs s a F j)).filter fun p => decide (p.2 ≤ L)).map pr
theorem fnd_succ (s : Nat) (a F L : Int) (i : Nat) : fnd s a F L (i + 1) = fnd s a F L i ++ if (S s a (hs s a F i)).2 ≤ L then [pr (S s a (hs s a F i))] else [] := by
  unfold fnd
  rw [List.range_succ, List.map_append, List.filter_append, List.map_append]
  congr 1
  by_cases e : (S s a (hs s a F i)).2 ≤ L <;> simp [e]
theorem fnd_len (s : Nat) (a F L : Int) (i : Nat) : (fnd s a F L i).length ≤ i := by
  unfold fnd
  rw [List.length_map]
  refine Nat.le_trans (List.length_filter_le _ _) ?_
  simp
theorem pur_prs : ∀ l : List (Int × Int), purs (l.map pr) = true ∧ lamfs (l.map pr) = true
  | [] => ⟨rfl, rfl⟩
  | p :: l => by
    obtain ⟨h1, h2⟩ := pur_prs l
    simp [purs, pur, lamfs, lamf, h1, h2]
theorem lamfs_app : ∀ a b : List D, lamfs (a ++ b) = (lamfs a && lamfs b)
  | [], b => by simp [lamfs]
  | d :: a, b => by simp [lamfs, lamfs_app a b, Bool.and_assoc]
theorem fnd_lam (s : Nat) (a F L : Int) (i : Nat) : lamfs (fnd s a F L i) = true := (pur_prs _).2
theorem period_S (s : Nat) (hs : s < 4) (a : Int) {n : Int} (h0 : 0 ≤ n) (h1 : n < yb 200) : M_period_of [.str (sortS s), .int n, .int a] [] = some (.ok (pr (S s a n)) []) := by
  obtain ⟨y, m, d, hv, rfl⟩ := date_ex h0 h1
  rw [S_dn s a hv]
  exact period_of_s s hs a hv
theorem year_valid {y : Int} (hy : 2000 ≤ y ∧ y ≤ 2199) : Valid y 1 1 ∧ Valid y 12 31 := by
  refine ⟨⟨hy, by omega, by have := dim_pos y 1; omega⟩, ⟨hy, by omega, ?_⟩⟩
  simp [dim]
theorem dn_lt {y m d : Int} (h : Valid y m d) : dn y m d < yb 200 := by
  have h1 := mb_lt h
  have h2 : yb ((y - 2000).toNat + 1) ≤ yb 200 := yb_mono (by have := h.hy; omega)
  have h3 : yb ((y - 2000).toNat + 1) = yb (y - 2000).toNat + ylen (2000 + ((y - 2000).toNat : Int)) := rfl
  have h4 : (2000 + ((y - 2000).toNat : Int)) = y := by have := h.hy; omega
  rw [h4] at h3
  unfold dn
  omega
theorem year_span {y : Int} (hy : 2000 ≤ y ∧ y ≤ 2199) : dn y 12 31 = dn y 1 1 + ylen y - 1 := by
  unfold dn
  rw [← mb12]
  have e1 : mb y 12 = mb y 11 + dim y 12 := rfl
  have e2 : dim y 12 = 31 := by simp [dim]
  have e3 : (12 : Int).toNat - 1 = 11 := rfl
  have e4 : (1 : Int).toNat - 1 = 0 := rfl
  rw [e1, e2, e3, e4]
  show _ = 1 - 1 + yb (y - 2000).toNat + 0 + _ - 1
  omega
theorem periods_run (s : Nat) (hs4 : s < 4) (a : Int) {y : Int} (hy : 2000 ≤ y ∧ y ≤ 2198) : ∃ N : Nat, 0 < N ∧ N < 400 ∧ (∀ i < N, hs s a (dn y 1 1) i ≤ dn y 12 31) ∧ dn y 12 31 < hs s a (dn y 1 1) N ∧
    ∃ μ, M_periods_in_year [.str (sortS s), .int y, .int a] [] = some (.ok (.tup (fnd s a (dn y 1 1) (dn y 12 31) N)) μ) := by
  obtain ⟨v1, v2⟩ := year_valid (y := y) (by omega)
  have n1 := dn_nn v1
  have b2 := dn_lt v2
  have hsp := year_span (y := y) (by omega)
  have hb := ylen_b y
  obtain ⟨N, a1, a2, a3, a4⟩ := hs_stop (s := s) (a := a) (F := dn y 1 1) (L := dn y 12 31) n1 (by omega) b2 (by omega)
  refine ⟨N, a1, a2, a3, a4, ?_⟩
  unfold M_periods_in_year B_periods_in_year
  rw [fnS_s]
  have hge : ∀ i ≤ N, dn y 1 1 + i ≤ hs s a (dn y 1 1) i := fun i hi => hs_grow n1 i fun j hj => by have := a3 j (by omega); omega
  obtain ⟨ρ', μ', w1, w2, o, w3⟩ := wl_run (t := bTst (bBin dLe (bVar 6) (bVar 4))) (b := cSeq (cSet 7 (bCallP M_period_of (bCons (bVar 0) (bCons (bVar 6) (bCons (bVar 2) (bNil)))))) (cSeq (cAug 5 dIAdd (bIf (bTst (bChain dLe dLe (bVar 3) (bBin dIx (bVar 7) (bCon (.int 1))) (bVar 4))) (bLst (bCons (bVar 7) (bNil))) (bLst (bNil)))) (cSet 6 (bBin dAdd (bBin dIx (bVar 7) (bCon (.int 1))) (bCon (.int 1))))))
    (I := fun i ρ μ => μ = [.lst (fnd s a (dn y 1 1) (dn y 12 31) i)] ∧ ∃ o, ρ = [some (.str (sortS s)), some (.int y), some (.int a), some (.int (dn y 1 1)), some (.int (dn y 12 31)), some (.ref 0), some (.int (hs s a (dn y 1 1) i)), o]) N (fun i ρ μ hi ⟨e1, o, e2⟩ => by
      subst e1 e2
      have c1 := a3 i hi
      have c2 := hge i (by omega)
      have c3 := period_S s hs4 a (n := hs s a (dn y 1 1) i) (by omega) (by omega)
      obtain ⟨c4, c5, c6⟩ := S_in s a (n := hs s a (dn y 1 1) i) (by omega) (by omega)
      have c7 := fnd_len s a (dn y 1 1) (dn y 12 31) i
      have c8 : dn y 1 1 ≤ (S s a (hs s a (dn y 1 1) i)).2 := by omega
      have c9 := fnd_succ s a (dn y 1 1) (dn y 12 31) i
      refine ⟨by simp [c1], [some (.str (sortS s)), some (.int y), some (.int a), some (.int (dn y 1 1)), some (.int (dn y 12 31)), some (.ref 0), some (.int (hs s a (dn y 1 1) (i + 1))), some (pr (S s a (hs s a (dn y 1 1) i)))], [.lst (fnd s a (dn y 1 1) (dn y 12 31) (i + 1))], ?_, rfl, _, rfl⟩
      rw [c9]
      have c10 : (fnd s a (dn y 1 1) (dn y 12 31) i).length + 1 ≤ 16777216 := by omega
      have c11 : (fnd s a (dn y 1 1) (dn y 12 31) i).length ≤ 16777216 := by omega
      have c12 : (fnd s a (dn y 1 1) (dn y 12 31) i).length < 16777216 := by omega
      by_cases hc : (S s a (hs s a (dn y 1 1) i)).2 ≤ dn y 12 31 <;> simp [c3, purs, pur, atI, ixN, c8, hc, dIAdd, vw, c10, c11, c12, lamfs_app, fnd_lam, lamfs, lamf, hs])
    (fun ρ μ ⟨e1, o, e2⟩ => by
      subst e1 e2
      simp
      omega) 1000 0 (by omega) (Nat.zero_le _) [some (.str (sortS s)), some (.int y), some (.int a), some (.int (dn y 1 1)), some (.int (dn y 12 31)), some (.ref 0), some (.int (dn y 1 1)), none] [.lst []] ⟨rfl, none, rfl⟩
  subst w2 w3
  have d1 := day_of_s v1
  have d2 := day_of_s v2
  simp [purs, pur, d1, d2, lamfs, w1, dTuple, vw]
  have := (pur_prs (((List.range N).map fun j => S s a (hs s a (dn y 1 1) j)).filter fun p => decide (p.2 ≤ dn y 12 31))).2
  exact this
end K01

set_option linter.all false
set_option maxRecDepth 100000
set_option maxHeartbeats 4000000
namespace K01
open PySem Mi L2
theorem roll_eq : M__law_roll = gRoll := rfl
theorem rounds_eq : M__law_rounds = gRounds := rfl
/-! lists of ints -/
theorem fl_ints : ∀ xs : List Int, (xs.map D.int).all flD = true
  | [] => rfl
  | x :: xs => by simp [flD]
theorem inF_ints (i : Int) : ∀ xs : List Int, inF (.int i) (xs.map .int) = decide (i ∈ xs)
  | [] => rfl
  | x :: xs => by
    have ih := inF_ints i xs
    unfold inF at ih ⊢
    rw [List.map_cons, List.any_cons, ih]
    show ((x == i) || decide (i ∈ xs)) = _
    rw [beq_dec, Bool.eq_iff_iff]
    simp only [Bool.or_eq_true, decide_eq_true_eq, List.mem_cons]
    constructor
    · rintro (h | h)
      · exact .inl h.symm
      · exact .inr h
    · rintro (h | h)
      · exact .inl h.symm
      · exact .inr h
theorem dIn_ints {μ : Sto} (i : Int) (xs : List Int) : dIn μ (.int i) (.lst (xs.map .int)) = some (.bl (decide (i ∈ xs))) := by
  unfold dIn dInB
  simp only [sqD, vw, flD, fl_ints, inF_ints, Bool.and_self, if_true, ite_true]
theorem dNin_ints {μ : Sto} (i : Int) (xs : List Int) : dNin μ (.int i) (.lst (xs.map .int)) = some (.bl (!decide (i ∈ xs))) := by
  unfold dNin dInB
  simp only [sqD, vw, flD, fl_ints, inF_ints, Bool.and_self, if_true, ite_true]
theorem purs_ints : ∀ xs : List Int, purs (xs.map .int) = true
  | [] => rfl
  | x :: xs => by simp [purs, pur, purs_ints xs]
theorem fv_ints : ∀ xs : List Int, (xs.map D.int).all fvD = true
  | [] => rfl
  | x :: xs => by simp [fvD]
/-- a work day -/
def wk (week free : List Int) (n : Int) : Bool := decide ((n + 5) % 7 ∈ week) && !decide (n ∈ free)
def wkD (week free : List Int) (x : D) : Bool := match x with | .int i => wk week free i | _ => false
theorem any_week : ∀ {week : List Int}, (∀ d ∈ week, 0 ≤ d ∧ d ≤ 6) → ∃ bs, blsD (qNot (qChain dLe dLe (qCon (.int 0)) qVar (qCon (.int 6)))) (week.map .int) = some bs ∧ bs.any id = false
  | [], _ => ⟨[], rfl, rfl⟩
  | d :: week, h => by
    obtain ⟨bs, h1, h2⟩ := any_week (week := week) fun x hx => h x (List.mem_cons_of_mem _ hx)
    obtain ⟨a, b⟩ := h d List.mem_cons_self
    refine ⟨false :: bs, ?_, by simpa using h2⟩
    have e : qNot (qChain dLe dLe (qCon (.int 0)) qVar (qCon (.int 6))) (.int d) = some (.bl false) := by
      simp [qNot, qChain, qCon, qVar, a, b]
    show (match qNot (qChain dLe dLe (qCon (.int 0)) qVar (qCon (.int 6))) (.int d) with
      | some (.bl b) => (match blsD (qNot (qChain dLe dLe (qCon (.int 0)) qVar (qCon (.int 6)))) (week.map .int) with
        | some bs => some (b :: bs)
        | none => none)
      | _ => none) = _
    rw [e, h1]
theorem work_days_s {f l : Int} {week free : List Int} (hb : -1000000000 < f ∧ f ≤ l ∧ l < f + 1000) (hw : ∀ d ∈ week, 0 ≤ d ∧ d ≤ 6) (hf : f < 1000000000) : M_work_days [.int f, .int l, .lst (week.map .int), .lst (free.map .int)] [] = some (.ok (.int ((rngD f (l + 1 - f).toNat).filter (wkD week free)).length) []) := by
  unfold M_work_days B_work_days
  rw [fnS_s]
  have h1 : ¬ l < f := by omega
  obtain ⟨bs, b1, b2⟩ := any_week hw
  have e1 : anyR (qNot (qChain dLe dLe (qCon (.int 0)) qVar (qCon (.int 6)))) (gnItems [] (.lst (week.map .int))) [] = some (.ok (.bl false) []) := by
    have : gnItems [] (.lst (week.map .int)) = some (week.map .int) := by
      show (match sqD [] (.lst (week.map .int)) with | some xs => (if xs.all fvD then some xs else none) | none => none) = _
      simp only [sqD, vw, fv_ints, if_true, ite_true]
    rw [this]
    unfold anyR
    dsimp only
    rw [b1]
    dsimp only
    rw [b2]
  have c := cl_pure (t := tgName 4) (fc := bAndT (bTst (bBin dIn (bCallP M_week_day (bCons (bVar 4) (bNil))) (bVar 2))) (bTst (bBin dNin (bVar 4) (bVar 3)))) (fe := bCon (.int 1)) (ρ := [some (.int f), some (.int l), some (.lst (week.map .int)), some (.lst (free.map .int)), none]) (μ := [])
    (wkD week free) (fun _ => .int 1) (rngD f (l + 1 - f).toNat) [] (fun x hx => by
      obtain ⟨i, hi, rfl⟩ := List.mem_iff_getElem.mp hx
      obtain ⟨h1, h2⟩ := rngD_get (List.getElem?_eq_getElem hi)
      rw [h2]
      refine ⟨_, rfl, ?_, fun _ => rfl⟩
      have e := week_day_s (f + i)
      cases hw2 : decide ((f + (i : Nat) + 5) % 7 ∈ week) <;> simp [e, purs, pur, dIn_ints, dNin_ints, wkD, wk, hw2]) (by rw [rngD_len]; simp; omega)
  rw [List.nil_append] at c
  have q1 : -4611686018427387904 ≤ f ∧ f < 4611686018427387904 := by omega
  have q2 : -4611686018427387904 ≤ l + 1 ∧ l + 1 < 4611686018427387904 := by omega
  simp [h1, e1, trD, q1, q2, wipeD, c, lamf]
/-! paying days -/
theorem rngD_cons (lo : Int) (n : Nat) : rngD lo (n + 1) = .int lo :: rngD (lo + 1) n := by
  rw [Nat.add_comm, rngD_app]
  have : rngD lo 1 = [.int lo] := by simp [rngD]
  rw [this]
  rfl
theorem rng_find {b : Cs} (v : Nat) {μ : Sto} (d : D) : ∀ (j n : Nat) (lo : Int) (st : Nat → Option D → En), j < n → (∀ (i : Nat) (o : Option D) (d : D), (st i o).set v (some d) = st i (some d)) → (∀ (i : Nat), i < j → b (st i (some (.int (lo + i)))) μ = some (.nx (st (i + 1) (some (.int (lo + i)))) μ)) →
    b (st j (some (.int (lo + j)))) μ = some (.rt d μ) → ∀ o : Option D, fl (tgName v) b (rngD lo n) (st 0 o) μ = some (.rt d μ)
  | j, 0, lo, st, hj, _, _, _, o => by omega
  | 0, n + 1, lo, st, hj, hset, hs, hr, o => by
    rw [rngD_cons]
    show (match b ((st 0 o).set v (some (.int lo))) μ with
      | some (.nx ρ2 μ2) => fl (tgName v) b (rngD (lo + 1) n) ρ2 μ2
      | some (.ct ρ2 μ2) => fl (tgName v) b (rngD (lo + 1) n) ρ2 μ2
      | some (.bk ρ2 μ2) => some (.nx ρ2 μ2)
      | r => r) = _
    have e : lo + ((0 : Nat) : Int) = lo := by omega
    rw [e] at hr
    rw [hset, hr]
  | j + 1, n + 1, lo, st, hj, hset, hs, hr, o => by
    rw [rngD_cons]
    show (match b ((st 0 o).set v (some (.int lo))) μ with
      | some (.nx ρ2 μ2) => fl (tgName v) b (rngD (lo + 1) n) ρ2 μ2
      | some (.ct ρ2 μ2) => fl (tgName v) b (rngD (lo + 1) n) ρ2 μ2
      | some (.bk ρ2 μ2) => some (.nx ρ2 μ2)
      | r => r) = _
    have e0 := hs 0 (by omega)
    have e : lo + ((0 : Nat) : Int) = lo := by omega
    rw [e] at e0
    rw [hset, e0]
    refine rng_find v d j n (lo + 1) (fun i => st (i + 1)) (by omega) (fun i => hset (i + 1)) (fun i hi => ?_) ?_ (some (.int lo))
    · have := hs (i + 1) (by omega)
      have e2 : lo + ((i + 1 : Nat) : Int) = lo + 1 + i := by omega
      rw [e2] at this
      exact this
    · have e2 : lo + ((j + 1 : Nat) : Int) = lo + 1 + j := by omega
      rw [e2] at hr
      exact hr
theorem paid_s {l g : Int} {week free : List Int} (hg : 0 ≤ g) (hw : week ≠ []) {j : Nat} (hj : j < 60) (hp : wk week free (l + g - j) = true) (hn : ∀ i : Nat, i < j → wk week free (l + g - i) = false) :
    M_paid_on [.int l, .int g, .lst (week.map .int), .lst (free.map .int)] [] = some (.ok (.int (l + g - j)) []) := by
  unfold M_paid_on B_paid_on
  rw [fnS_s]
  have h1 : ¬ g < 0 := by omega
  have f := rng_find (b := cSeq (cSet 5 (bBin dSub (bBin dAdd (bVar 0) (bVar 1)) (bVar 4))) (cIf (bAndT (bTst (bBin dIn (bCallP M_week_day (bCons (bVar 5) (bNil))) (bVar 2))) (bTst (bBin dNin (bVar 5) (bVar 3)))) (cRet (bVar 5)) (cNop))) 4 (μ := []) (.int (l + g - j)) j 60 0
    (fun i o => [some (.int l), some (.int g), some (.lst (week.map .int)), some (.lst (free.map .int)), o, if i = 0 then none else some (.int (l + g - (i - 1 : Int)))]) hj (fun _ _ _ => rfl) (fun i hi => by
      have e := hn i hi
      have e1 := week_day_s (l + g - i)
      unfold wk at e
      cases hw2 : decide ((l + g - (i : Int) + 5) % 7 ∈ week)
      · simp [e1, purs, pur, dIn_ints, dNin_ints, hw2]
      · rw [hw2] at e
        simp at e
        simp [e1, purs, pur, dIn_ints, dNin_ints, hw2, e]) (by
      have e1 := week_day_s (l + g - j)
      unfold wk at hp
      simp at hp
      simp [e1, purs, pur, dIn_ints, dNin_ints, hp.1, hp.2]) none
  simp at f
  have hl : week.length ≠ 0 := fun h => hw (List.length_eq_zero_iff.mp h)
  have hr : (60 : Int).toNat = 60 := rfl
  simp [h1, hw, f, lamf]
theorem paid_x {l g : Int} {free : List Int} (hg : 0 ≤ g) : M_paid_on [.int l, .int g, .lst [], .lst (free.map .int)] [] = some (.exc "PeriodError" []) := by
  unfold M_paid_on B_paid_on
  rw [fnS_s]
  have h1 : ¬ g < 0 := by omega
  simp [h1]
end K01

set_option linter.all false
set_option maxRecDepth 100000
set_option maxHeartbeats 4000000
namespace K01
open PySem Mi L2
def st0 : Cs := cAsg (bTup (bCons (bTup (bCons (bBin dAdd (bCon (.int 2000)) (bCallM M__law_roll (bCons (bVar 2) (bCons (bCon (.int 120)) (bNil))))) (bCons (bBin dAdd (bCon (.int 1)) (bCallM M__law_roll (bCons (bVar 2) (bCons (bCon (.int 12)) (bNil))))) (bCons (bBin dAdd (bCon (.int 1)) (bCallM M__law_roll (bCons (bVar 2) (bCons (bCon (.int 28)) (bNil))))) (bNil))))) (bCons (bCallM M__law_roll (bCons (bVar 2) (bCons (bCon (.int 30)) (bNil)))) (bCons (bBin dIx (bVar 1) (bCallM M__law_roll (bCons (bVar 2) (bCons (bCon (.int 4)) (bNil))))) (bNil))))) (tgTup [tgName 3, tgName 4, tgName 5])
def st1 : Cs := cAsg (bTup (bCons (bCallP M__law_number (bCons (bVar 3) (bNil))) (bCons (bVar 3) (bCons (bLst (bNil)) (bNil))))) (tgTup [tgName 6, tgName 7, tgName 8])
def in0 : Cs := cSet 10 (bBin dAdd (bVar 6) (bVar 9))
def in1 : Cs := cSet 11 (bBin dAdd (bBin dAdd (bBin dAdd (bBin dAdd (bBin dAdd (bBin dAdd (bFn dStr (bCons (bBin dIx (bVar 7) (bCon (.int 0))) (bNil))) (bCon (.str "-"))) (bFn dStr (bCons (bBin dDiv (bBin dIx (bVar 7) (bCon (.int 1))) (bCon (.int 10))) (bNil)))) (bFn dStr (bCons (bBin dMod (bBin dIx (bVar 7) (bCon (.int 1))) (bCon (.int 10))) (bNil)))) (bCon (.str "-"))) (bFn dStr (bCons (bBin dDiv (bBin dIx (bVar 7) (bCon (.int 2))) (bCon (.int 10))) (bNil)))) (bFn dStr (bCons (bBin dMod (bBin dIx (bVar 7) (bCon (.int 2))) (bCon (.int 10))) (bNil))))
def in2 : Cs := cIf (bOrT (bTst (bBin dNe (bCallP M_day_of (bCons (bBin dIx (bVar 7) (bCon (.int 0))) (bCons (bBin dIx (bVar 7) (bCon (.int 1))) (bCons (bBin dIx (bVar 7) (bCon (.int 2))) (bNil))))) (bVar 10))) (bOrT (bTst (bBin dNe (bCallP M_date_of (bCons (bVar 10) (bNil))) (bVar 7))) (bTst (bBin dNe (bCallP M_told_date (bCons (bVar 10) (bNil))) (bVar 11))))) (cRet (bCon (.bl false))) (cNop)
def in3 : Cs := cIf (bOrT (bTst (bBin dNe (bCallP M_read_date (bCons (bVar 11) (bNil))) (bVar 10))) (bTst (bBin dNe (bCallP M_week_day (bCons (bVar 10) (bNil))) (bBin dMod (bBin dAdd (bVar 10) (bCon (.int 5))) (bCon (.int 7)))))) (cRet (bCon (.bl false))) (cNop)
def in4 : Cs := cIf (bTst (bBin dNe (bCallP M_days_in_month (bCons (bBin dIx (bVar 7) (bCon (.int 0))) (bCons (bBin dIx (bVar 7) (bCon (.int 1))) (bNil)))) (bCallP M__law_long (bCons (bBin dIx (bVar 7) (bCon (.int 0))) (bCons (bBin dIx (bVar 7) (bCon (.int 1))) (bNil)))))) (cRet (bCon (.bl false))) (cNop)
def in5 : Cs := cSet 12 (bCallP M_period_of (bCons (bVar 5) (bCons (bVar 10) (bCons (bVar 4) (bNil)))))
def in6 : Cs := cIf (bOrT (bTst (bBin dNe (bVar 12) (bCallP M__law_span (bCons (bVar 5) (bCons (bVar 7) (bCons (bVar 4) (bNil))))))) (bNotT (bTst (bChain dLe dLe (bBin dIx (bVar 12) (bCon (.int 0))) (bVar 10) (bBin dIx (bVar 12) (bCon (.int 1))))))) (cRet (bCon (.bl false))) (cNop)
def in7 : Cs := cIf (bAndT (bTst (bBin dGt (bVar 9) (bCon (.int 0)))) (bAndT (bTst (bBin dNe (bBin dIx (bVar 8) (bNeg (bCon (.int 1)))) (bVar 12))) (bTst (bBin dNe (bBin dAdd (bBin dIx (bBin dIx (bVar 8) (bNeg (bCon (.int 1)))) (bCon (.int 1))) (bCon (.int 1))) (bBin dIx (bVar 12) (bCon (.int 0))))))) (cRet (bCon (.bl false))) (cNop)
def in8 : Cs := cSet 8 (bBin dAdd (bVar 8) (bLst (bCons (bVar 12) (bNil))))
def in9 : Cs := cSet 7 (bCallP M__law_next (bCons (bVar 7) (bNil)))
def inner : Cs := cSeq in0 (cSeq in1 (cSeq in2 (cSeq in3 (cSeq in4 (cSeq in5 (cSeq in6 (cSeq in7 (cSeq in8 (in9)))))))))
def st2 : Cs := cFor (bRng1 (bCons (bCon (.int 40)) (bNil))) (tgName 9) inner
def st3 : Cs := cSet 13 (bBin dIx (bVar 3) (bCon (.int 0)))
def st4 : Cs := cAsg (bTup (bCons (bCallP M_periods_in_year (bCons (bVar 5) (bCons (bVar 13) (bCons (bVar 4) (bNil))))) (bCons (bCallP M__law_number (bCons (bTup (bCons (bVar 13) (bCons (bCon (.int 1)) (bCons (bCon (.int 1)) (bNil))))) (bNil))) (bCons (bCallP M__law_number (bCons (bTup (bCons (bVar 13) (bCons (bCon (.int 12)) (bCons (bCon (.int 31)) (bNil))))) (bNil))) (bNil))))) (tgTup [tgName 14, tgName 15, tgName 16])
def st5 : Cs := cIf (bTst (bBin dNe (bComp [12] (bItems (bVar 14)) (tgName 12) (bNotT (bTst (bChain dLe dLe (bVar 15) (bBin dIx (bVar 12) (bCon (.int 1))) (bVar 16)))) (bVar 12)) (bLst (bNil)))) (cRet (bCon (.bl false))) (cNop)
def st6 : Cs := cIf (bOrT (bTst (bBin dNe (bComp [9] (bRng2 (bCons (bCon (.int 1)) (bCons (bFn dLen (bCons (bVar 14) (bNil))) (bNil)))) (tgName 9) (bTst (bBin dNe (bBin dIx (bBin dIx (bVar 14) (bVar 9)) (bCon (.int 0))) (bBin dAdd (bBin dIx (bBin dIx (bVar 14) (bBin dSub (bVar 9) (bCon (.int 1)))) (bCon (.int 1))) (bCon (.int 1))))) (bVar 9)) (bLst (bNil)))) (bTst (bBin dGt (bBin dIx (bBin dIx (bVar 14) (bCon (.int 0))) (bCon (.int 0))) (bVar 15)))) (cRet (bCon (.bl false))) (cNop)
def st7 : Cs := cIf (bAndT (bTst (bBin dLe (bBin dAdd (bBin dIx (bBin dIx (bVar 14) (bNeg (bCon (.int 1)))) (bCon (.int 1))) (bCon (.int 1))) (bVar 16))) (bTst (bBin dNe (bBin dAdd (bBin dIx (bBin dIx (bVar 14) (bNeg (bCon (.int 1)))) (bCon (.int 1))) (bCon (.int 1))) (bBin dIx (bCallP M__law_span (bCons (bVar 5) (bCons (bTup (bCons (bVar 13) (bCons (bCon (.int 12)) (bCons (bCon (.int 31)) (bNil))))) (bCons (bVar 4) (bNil))))) (bCon (.int 0)))))) (cRet (bCon (.bl false))) (cNop)
def st8 : Cs := cAsg (bTup (bCons (bComp [20] (bRng1 (bCons (bCon (.int 7)) (bNil))) (tgName 20) (bTst (bBin dEq (bCallM M__law_roll (bCons (bVar 2) (bCons (bCon (.int 2)) (bNil)))) (bCon (.int 0)))) (bVar 20)) (bCons (bComp [9] (bRng1 (bCons (bCon (.int 40)) (bNil))) (tgName 9) (bTst (bBin dEq (bCallM M__law_roll (bCons (bVar 2) (bCons (bCon (.int 5)) (bNil)))) (bCon (.int 0)))) (bBin dAdd (bVar 6) (bVar 9))) (bCons (bCallM M__law_roll (bCons (bVar 2) (bCons (bCon (.int 39)) (bNil)))) (bNil))))) (tgTup [tgName 17, tgName 18, tgName 19])
def st9 : Cs := cSet 21 (bComp [10] (bRng2 (bCons (bVar 6) (bCons (bBin dAdd (bBin dAdd (bVar 6) (bVar 19)) (bCon (.int 1))) (bNil)))) (tgName 10) (bAndT (bTst (bBin dIn (bBin dMod (bBin dAdd (bVar 10) (bCon (.int 5))) (bCon (.int 7))) (bVar 17))) (bTst (bBin dNin (bVar 10) (bVar 18)))) (bVar 10))
def st10 : Cs := cIf (bTst (bBin dNe (bCallP M_work_days (bCons (bVar 6) (bCons (bBin dAdd (bVar 6) (bVar 19)) (bCons (bVar 17) (bCons (bVar 18) (bNil)))))) (bFn dLen (bCons (bVar 21) (bNil))))) (cRet (bCon (.bl false))) (cNop)
def st11 : Cs := cSet 22 (bCallM M__law_roll (bCons (bVar 2) (bCons (bCon (.int 9)) (bNil))))
def st12 : Cs := cSet 23 (bComp [10] (bRng3n (bCons (bBin dAdd (bBin dAdd (bVar 6) (bCon (.int 20))) (bVar 22)) (bCons (bBin dSub (bBin dAdd (bVar 6) (bVar 22)) (bCon (.int 41))) (bCons (bNeg (bCon (.int 1))) (bNil))))) (tgName 10) (bAndT (bTst (bBin dIn (bBin dMod (bBin dAdd (bVar 10) (bCon (.int 5))) (bCon (.int 7))) (bVar 17))) (bAndT (bTst (bBin dNin (bVar 10) (bVar 18))) (bTst (bBin dGe (bVar 10) (bBin dSub (bBin dAdd (bVar 6) (bVar 22)) (bCon (.int 39))))))) (bVar 10))
def st13 : Cs := cSet 24 (bTold told_ret told_en (bCallP M_paid_on (bCons (bBin dAdd (bVar 6) (bCon (.int 20))) (bCons (bVar 22) (bCons (bVar 17) (bCons (bVar 18) (bNil)))))))
def st14 : Cs := cIf (bOrT (bAndT (bTst (bBin dEq (bVar 17) (bLst (bNil)))) (bTst (bBin dNe (bVar 24) (bCon (.str "PeriodError"))))) (bAndT (bTst (bBin dNe (bVar 17) (bLst (bNil)))) (bTst (bBin dNe (bVar 24) (bBin dIx (bVar 23) (bCon (.int 0))))))) (cRet (bCon (.bl false))) (cNop)
def st15 : Cs := cAsg (bTup (bCons (bBin dSub (bCallM M__law_roll (bCons (bVar 2) (bCons (bCon (.int 30)) (bNil)))) (bBin dMul (bCon (.int 5)) (bFn dInt (bCons (bBin dGt (bBin dIx (bVar 3) (bCon (.int 0))) (bCon (.int 2000))) (bNil))))) (bCons (bCallM M__law_roll (bCons (bVar 2) (bCons (bCon (.int 900)) (bNil)))) (bNil)))) (tgTup [tgName 25, tgName 26])
def st16 : Cs := cSet 27 (bBin dIx (bComp [28] (bRng1 (bCons (bCon (.int 40)) (bNil))) (tgName 28) (bTst (bBin dLe (bCallP M__law_moved (bCons (bVar 3) (bCons (bVar 28) (bNil)))) (bBin dAdd (bVar 6) (bVar 26)))) (bVar 28)) (bNeg (bCon (.int 1))))
def st17 : Cs := cIf (bOrT (bTst (bBin dNe (bCallP M_moved_months (bCons (bVar 6) (bCons (bVar 25) (bNil)))) (bCallP M__law_moved (bCons (bVar 3) (bCons (bVar 25) (bNil)))))) (bTst (bBin dNe (bCallP M_whole_months (bCons (bVar 6) (bCons (bBin dAdd (bVar 6) (bVar 26)) (bNil)))) (bVar 27)))) (cRet (bCon (.bl false))) (cNop)
def st18 : Cs := cPar2 29 30 (bCons (bBin dAdd (bVar 6) (bCallM M__law_roll (bCons (bVar 2) (bCons (bCon (.int 20)) (bNil))))) (bCons (bBin dAdd (bBin dAdd (bVar 6) (bCon (.int 20))) (bCallM M__law_roll (bCons (bVar 2) (bCons (bCon (.int 20)) (bNil))))) (bNil)))
def st19 : Cs := cIf (bTst (bBin dNe (bCallP M_share_of_days (bCons (bVar 29) (bCons (bVar 30) (bCons (bBin dIx (bVar 8) (bCon (.int 0))) (bNil))))) (bTup (bCons (bFn dLen (bCons (bComp [31] (bRng2 (bCons (bVar 29) (bCons (bBin dAdd (bVar 30) (bCon (.int 1))) (bNil)))) (tgName 31) (bTst (bChain dLe dLe (bBin dIx (bBin dIx (bVar 8) (bCon (.int 0))) (bCon (.int 0))) (bVar 31) (bBin dIx (bBin dIx (bVar 8) (bCon (.int 0))) (bCon (.int 1))))) (bVar 31)) (bNil))) (bCons (bBin dAdd (bBin dSub (bBin dIx (bBin dIx (bVar 8) (bCon (.int 0))) (bCon (.int 1))) (bBin dIx (bBin dIx (bVar 8) (bCon (.int 0))) (bCon (.int 0)))) (bCon (.int 1))) (bNil)))))) (cRet (bCon (.bl false))) (cNop)
def bodyC : Cs := cSeq st0 (cSeq st1 (cSeq st2 (cSeq st3 (cSeq st4 (cSeq st5 (cSeq st6 (cSeq st7 (cSeq st8 (cSeq st9 (cSeq st10 (cSeq st11 (cSeq st12 (cSeq st13 (cSeq st14 (cSeq st15 (cSeq st16 (cSeq st17 (cSeq st18 (st19)))))))))))))))))))
theorem B_law_eq : B_law = cSeq (cSet 1 (bLst (bCons (bCon (.str "week")) (bCons (bCon (.str "two weeks")) (bCons (bCon (.str "half month")) (bCons (bCon (.str "month")) (bNil))))))) (cSeq (cFor (bItems (bCallM M__law_rounds (bCons (bVar 0) (bCons (bCon (.int 1)) (bNil))))) (tgName 2) bodyC) (cRet (bCall0 M__law_plain))) := rfl
noncomputable def dl (s : Nat) (a n0 : Int) (k : Nat) : List D := (List.range k).map fun i => pr (S s a (n0 + (i : Nat)))
theorem dl_succ (s : Nat) (a n0 : Int) (k : Nat) : dl s a n0 (k + 1) = dl s a n0 k ++ [pr (S s a (n0 + k))] := by
  unfold dl
  rw [List.range_succ, List.map_append]
  rfl
theorem dl_len (s : Nat) (a n0 : Int) (k : Nat) : (dl s a n0 k).length = k := by unfold dl; simp
theorem txt_assoc (y m d : Int) : toS y ++ Str.ofString "-" ++ toS (m / 10) ++ toS (m % 10) ++ Str.ofString "-" ++ toS (d / 10) ++ toS (d % 10) = txt y m d := by
  unfold txt two
  simp only [s_assoc]
/-- the inner loop's names -/
abbrev ei (scr sorts : Option D) (date : D) (a : Int) (s : Nat) (n0 : Int) (y m d : Int) (days : List D) (o9 o10 o11 o12 : Option D) : En :=
  [scr, sorts, some (.ref 0), some date, some (.int a), some (.str (sortS s)), some (.int n0), some (.tup [.int y, .int m, .int d]), some (.lst days), o9, o10, o11, o12,
   none, none, none, none, none, none, none, none, none, none, none, none, none, none, none, none, none, none, none]
theorem inner_s {scr sorts : Option D} {date : D} {a n0 : Int} {s : Nat} {y m d : Int} {k : Nat} {o10 o11 o12 : Option D} {μ : Sto} (hs : s < 4) (hv : Valid y m d) (hy : y < 2199) (he : dn y m d = n0 + k) (h0 : 0 ≤ n0) (hk : k < 40) :
    inner (ei scr sorts date a s n0 y m d (dl s a n0 k) (some (.int k)) o10 o11 o12) μ = some (.nx (ei scr sorts date a s n0 (nxt y m d).1 (nxt y m d).2.1 (nxt y m d).2.2 (dl s a n0 (k + 1)) (some (.int k)) (some (.int (n0 + k))) (some (.str (txt y m d))) (some (pr (S s a (n0 + k))))) μ) := by
  have hlt := dn_lt hv
  have h200 := yb200
  unfold inner
  have hm := hv.hm
  have hd := hv.hd
  have hd31 := dim_le hv
  have hyy := hv.hy
  refine seq_nx (ρ1 := ei scr sorts date a s n0 y m d (dl s a n0 k) (some (.int k)) (some (.int (n0 + k))) o11 o12) (μ1 := μ) (by simp [in0]) ?_
  refine seq_nx (ρ1 := ei scr sorts date a s n0 y m d (dl s a n0 k) (some (.int k)) (some (.int (n0 + k))) (some (.str (txt y m d))) o12) (μ1 := μ) ?_ ?_
  · have l1 : y.natAbs.log2 < 1920 := log2_ok (by omega)
    have l2 : (m / 10).natAbs.log2 < 1920 := log2_ok (by omega)
    have l3 : (m % 10).natAbs.log2 < 1920 := log2_ok (by omega)
    have l4 : (d / 10).natAbs.log2 < 1920 := log2_ok (by omega)
    have l5 : (d % 10).natAbs.log2 < 1920 := log2_ok (by omega)
    have g1 := (year_dig (i := y) (by omega)).1
    have g2 := (one_dig (i := m / 10) (by omega)).1
    have g3 := (one_dig (i := m % 10) (by omega)).1
    have g4 := (one_dig (i := d / 10) (by omega)).1
    have g5 := (one_dig (i := d % 10) (by omega)).1
    simp [in1, atI, ixN, divOk, modOk, l1, l2, l3, l4, l5, g1, g2, g3, g4, g5, len_app, dash, ← txt_assoc]
  have e1 := day_of_s hv
  have e2 := date_of_s hv []
  have e3 := told_date_s hv
  have e4 := read_date_s hv
  rw [he] at e1 e2 e3 e4
  have e5 := week_day_s (n0 + k)
  have e6 := dim_s y m hv.hy hv.hm
  have e7 := long_s y m hv.hm
  refine seq_nx (ρ1 := ei scr sorts date a s n0 y m d (dl s a n0 k) (some (.int k)) (some (.int (n0 + k))) (some (.str (txt y m d))) o12) (μ1 := μ) (by simp [in2, atI, ixN, purs, pur, e1, e2, e3]) ?_
  refine seq_nx (ρ1 := ei scr sorts date a s n0 y m d (dl s a n0 k) (some (.int k)) (some (.int (n0 + k))) (some (.str (txt y m d))) o12) (μ1 := μ) (by simp [in3, purs, pur, e4, e5, modOk]) ?_
  refine seq_nx (ρ1 := ei scr sorts date a s n0 y m d (dl s a n0 k) (some (.int k)) (some (.int (n0 + k))) (some (.str (txt y m d))) o12) (μ1 := μ) (by simp [in4, atI, ixN, purs, pur, e6, e7]) ?_
  have f0 : n0 + (k : Int) < yb 200 := by omega
  have f1 := period_S s hs a (n := n0 + k) (by omega) f0
  have f2 := law_span_s s hs a hv
  rw [← S_dn s a hv, he] at f2
  obtain ⟨f3, f4, f5⟩ := S_in s a (n := n0 + k) (by omega) f0
  refine seq_nx (ρ1 := ei scr sorts date a s n0 y m d (dl s a n0 k) (some (.int k)) (some (.int (n0 + k))) (some (.str (txt y m d))) (some (pr (S s a (n0 + k))))) (μ1 := μ) (by simp [in5, purs, pur, f1]) ?_
  refine seq_nx (ρ1 := ei scr sorts date a s n0 y m d (dl s a n0 k) (some (.int k)) (some (.int (n0 + k))) (some (.str (txt y m d))) (some (pr (S s a (n0 + k))))) (μ1 := μ) (by simp [in6, purs, pur, f2, atI, ixN, f3, f4]) ?_
  refine seq_nx (ρ1 := ei scr sorts date a s n0 y m d (dl s a n0 k) (some (.int k)) (some (.int (n0 + k))) (some (.str (txt y m d))) (some (pr (S s a (n0 + k))))) (μ1 := μ) ?_ ?_
  · cases k with
    | zero => simp [in7]
    | succ j =>
      have g := atI_last (dl s a n0 j) (pr (S s a (n0 + (j : Nat))))
      rw [← dl_succ] at g
      have hz : (0 : Int) < ((j + 1 : Nat) : Int) := by omega
      have hmt := S_meet s a (n := n0 + (j : Nat)) (by omega) (by push_cast at f0; omega)
      have ej : n0 + ((j + 1 : Nat) : Int) = n0 + j + 1 := by omega
      rw [ej]
      rcases hmt with h | ⟨h1, h2⟩
      · simp [in7, hz, g, h]
      · have e9 : (S s a (n0 + (j : Nat))).2 + 1 = (S s a (n0 + j + 1)).1 := by omega
        by_cases hq : (S s a (n0 + (j : Nat))).1 = (S s a (n0 + j + 1)).1 ∧ (S s a (n0 + (j : Nat))).2 = (S s a (n0 + j + 1)).2
        · simp [in7, hz, g, hq.1, hq.2]
        · have hqq : ¬ ((S s a (n0 + (j : Nat))).1 = (S s a (n0 + j + 1)).1 ∧ (S s a (n0 + (j : Nat))).2 = (S s a (n0 + j + 1)).2) := hq
          simp [in7, hz, g, hqq, e9]
  refine seq_nx (ρ1 := ei scr sorts date a s n0 y m d (dl s a n0 (k + 1)) (some (.int k)) (some (.int (n0 + k))) (some (.str (txt y m d))) (some (pr (S s a (n0 + k))))) (μ1 := μ) ?_ ?_
  · have hl := dl_len s a n0 k
    have hl2 : (dl s a n0 k).length + 1 ≤ 16777216 := by omega
    have hl3 : (dl s a n0 k).length ≤ 16777215 := by omega
    simp [in8, hl2, hl3, dl_succ]
  · have hn := next_s hv
    simp [in9, purs, pur, hn]
end K01

set_option linter.all false
set_option maxRecDepth 100000
set_option maxHeartbeats 4000000
namespace K01
open PySem Mi L2
abbrev eb (scr sorts : Option D) (date : D) (a : Int) (s : Nat) (n0 : Int) (here : Option D) (days : List D) (o9 o10 o11 o12 : Option D) (r : List (Option D)) : En :=
  scr :: sorts :: some (.ref 0) :: some date :: some (.int a) :: some (.str (sortS s)) :: some (.int n0) :: here :: some (.lst days) :: o9 :: o10 :: o11 :: o12 :: r
theorem days_s {scr sorts : Option D} {date : D} {a n0 : Int} {s : Nat} {y m d : Int} {o9 o10 o11 o12 : Option D} {μ : Sto} (hs : s < 4) (hv : Valid y m d) (hy : y < 2190) (he : dn y m d = n0) :
    ∃ here o9 o10 o11 o12, st2 (eb scr sorts date a s n0 (some (.tup [.int y, .int m, .int d])) [] none none none none (List.replicate 19 none)) μ = some (.nx (eb scr sorts date a s n0 here (dl s a n0 40) o9 o10 o11 o12 (List.replicate 19 none)) μ) := by
  have h0 := dn_nn hv
  have hlt : dn y m d < yb 191 := by
    have h1 := mb_lt hv
    have h2 : yb ((y - 2000).toNat + 1) ≤ yb 191 := yb_mono (by omega)
    have h3 : yb ((y - 2000).toNat + 1) = yb (y - 2000).toNat + ylen (2000 + ((y - 2000).toNat : Int)) := rfl
    have h4 : (2000 + ((y - 2000).toNat : Int)) = y := by have := hv.hy; omega
    rw [h4] at h3
    unfold dn
    omega
  have h9 : yb 191 + 365 ≤ yb 192 := by
    have h3 : yb 192 = yb 191 + ylen (2000 + ((191 : Nat) : Int)) := rfl
    have := ylen_b (2000 + ((191 : Nat) : Int))
    omega
  have key := rng_run (t := tgName 9) (b := inner) (I := fun k ρ μ1 => μ1 = μ ∧ ∃ y m d o9 o10 o11 o12, Valid y m d ∧ dn y m d = n0 + k ∧ ρ = ei scr sorts date a s n0 y m d (dl s a n0 k) o9 o10 o11 o12) 0 40 (fun k ρ μ1 hk ⟨e1, y', m', d', p9, p10, p11, p12, v', e', hρ⟩ => by
    subst e1 hρ
    have hy' : y' < 2199 := by
      rcases Int.lt_or_le y' 2199 with h | h
      · exact h
      · have h1 : yb 192 ≤ yb (y' - 2000).toNat := yb_mono (by omega)
        have h2 := mb_nn y' (m'.toNat - 1)
        have h3 := v'.hd
        unfold dn at e'
        omega
    have hn := nxt_valid v' hy'
    have z : (0 : Int) + (k : Nat) = k := by omega
    refine ⟨ei scr sorts date a s n0 y' m' d' (dl s a n0 k) (some (.int k)) p10 p11 p12, μ1, _, μ1, by rw [z]; rfl, inner_s hs v' hy' e' (by omega) hk, rfl, _, _, _, _, _, _, _, hn.1, ?_, rfl⟩
    rw [hn.2, e']
    push_cast
    omega) (ρ := ei scr sorts date a s n0 y m d (dl s a n0 0) none none none none) (μ := μ) ⟨rfl, y, m, d, none, none, none, none, hv, by simpa using he, rfl⟩
  obtain ⟨ρ', μ', k1, rfl, y', m', d', p9, p10, p11, p12, v', e', rfl⟩ := key
  refine ⟨some (.tup [.int y', .int m', .int d']), p9, p10, p11, p12, ?_⟩
  have hr : (40 : Int).toNat = 40 := rfl
  unfold st2
  simp only [cFor_s, bRng1_s, bCons_s, bCon_s, bNil_s, ob, obS]
  rw [if_pos (by decide)]
  exact k1
/-! the spans of the year -/
theorem hs_valid {s : Nat} {a F : Int} {n : Nat} (h0 : 0 ≤ F) (h : ∀ i < n, hs s a F i < yb 200) : F ≤ hs s a F n := by
  have := hs_grow (s := s) (a := a) h0 n h
  omega
theorem hs_first {s : Nat} {a F : Int} {j : Nat} (h0 : 0 ≤ F) (h : ∀ i < j + 2, hs s a F i < yb 200) : (S s a (hs s a F (j + 1))).1 = hs s a F (j + 1) := by
  have v1 := hs_valid (s := s) (a := a) (F := F) (n := j) h0 fun i hi => h i (by omega)
  have b1 := h j (by omega)
  have b2 := h (j + 1) (by omega)
  have e : hs s a F (j + 1) = (S s a (hs s a F j)).2 + 1 := rfl
  obtain ⟨c1, c2, c3⟩ := S_in s a (n := hs s a F j) (by omega) b1
  rw [e] at b2 ⊢
  have q := S_eq s a (n := hs s a F j) (k := (S s a (hs s a F j)).2) (by omega) b1 (by omega) (by omega) ⟨by omega, Int.le_refl _⟩
  rcases S_meet s a (n := (S s a (hs s a F j)).2) (by omega) b2 with h1 | ⟨_, h2⟩
  · have := S_in s a (n := (S s a (hs s a F j)).2 + 1) (by omega) b2
    rw [h1, q] at this
    omega
  · exact h2
theorem fnd_eq {s : Nat} {a F L : Int} {N : Nat} (h0 : 0 ≤ F) (hL : L < yb 200) (hF : F + 40 < L) (hN : 0 < N) (h1 : ∀ i < N, hs s a F i ≤ L) (h2 : L < hs s a F N) :
    ∃ k : Nat, 0 < k ∧ k ≤ N ∧ fnd s a F L N = (List.range k).map (fun i => pr (S s a (hs s a F i))) ∧ (∀ i < k, F ≤ (S s a (hs s a F i)).2 ∧ (S s a (hs s a F i)).2 ≤ L) ∧ (hs s a F k ≤ L → L < (S s a (hs s a F k)).2) := by
  have hv : ∀ i ≤ N, F ≤ hs s a F i := fun i hi => hs_valid h0 fun j hj => by have := h1 j (by omega); omega
  have hin : ∀ i < N, hs s a F i ≤ (S s a (hs s a F i)).2 := fun i hi => (S_in s a (n := hs s a F i) (by have := hv i (by omega); omega) (by have := h1 i hi; omega)).2.1
  have hle : ∀ i, i + 1 < N → (S s a (hs s a F i)).2 ≤ L := fun i hi => by
    have := h1 (i + 1) hi
    have e : hs s a F (i + 1) = (S s a (hs s a F i)).2 + 1 := rfl
    omega
  have all : ∀ k ≤ N, (∀ i < k, (S s a (hs s a F i)).2 ≤ L) → fnd s a F L k = (List.range k).map (fun i => pr (S s a (hs s a F i))) := by
    intro k
    induction k with
    | zero => intro _ _; rfl
    | succ k ih =>
      intro hk hh
      rw [fnd_succ, ih (by omega) fun i hi => hh i (by omega), if_pos (hh k (by omega)), List.range_succ, List.map_append]
      rfl
  obtain ⟨n, rfl⟩ : ∃ n, N = n + 1 := ⟨N - 1, by omega⟩
  by_cases hc : (S s a (hs s a F n)).2 ≤ L
  · have hall : ∀ i < n + 1, (S s a (hs s a F i)).2 ≤ L := fun i hi => by
      by_cases e : i = n
      · subst e; exact hc
      · exact hle i (by omega)
    refine ⟨n + 1, by omega, Nat.le_refl _, all _ (Nat.le_refl _) hall, fun i hi => ⟨?_, hall i hi⟩, fun h => ?_⟩
    · have := hv i (by omega); have := hin i hi; omega
    · omega
  · have hn : 0 < n := by
      rcases Nat.eq_zero_or_pos n with e | e
      · subst e
        have := S_in s a (n := F) h0 (by omega)
        simp [hs] at hc
        omega
      · exact e
    have hall : ∀ i < n, (S s a (hs s a F i)).2 ≤ L := fun i hi => hle i (by omega)
    refine ⟨n, hn, by omega, ?_, fun i hi => ⟨?_, hall i hi⟩, fun h => by omega⟩
    · rw [fnd_succ, if_neg hc, List.append_nil]
      exact all n (by omega) hall
    · have := hv i (by omega); have := hin i (by omega); omega
section
variable {scr sorts : Option D} {a n0 : Int} {s : Nat} {y m d : Int} {here o9 o10 o11 o12 : Option D} {days : List D} {μ : Sto} {r : List (Option D)} {fs : List D} {k : Nat} {F L : Int}
/-- the names once the spans are told -/
abbrev es (scr sorts : Option D) (a : Int) (s : Nat) (n0 y m d : Int) (here : Option D) (days : List D) (o9 o10 o11 o12 : Option D) (r : List (Option D)) (fs : List D) (F L : Int) : En := eb scr sorts (.tup [.int y, .int m, .int d]) a s n0 here days o9 o10 o11 o12 (some (.int y) :: some (.tup fs) :: some (.int F) :: some (.int L) :: r)
theorem st5_s (flen : fs.length = k) (hk : k ≤ 1000) (q : Nat → Int × Int) (fget : ∀ i < k, fs[i]? = some (pr (q i))) (kb : ∀ i < k, F ≤ (q i).2 ∧ (q i).2 ≤ L) : st5 (es scr sorts a s n0 y m d here days o9 o10 o11 o12 r fs F L) μ = some (.nx (es scr sorts a s n0 y m d here days o9 o10 o11 o12 r fs F L) μ) := by
  have c := cl_pure (t := tgName 12) (fc := bNotT (bTst (bChain dLe dLe (bVar 15) (bBin dIx (bVar 12) (bCon (.int 1))) (bVar 16)))) (fe := bVar 12) (ρ := es scr sorts a s n0 y m d here days o9 o10 o11 none r fs F L) (μ := μ) (fun _ => false) id fs [] (fun x hx => by
    obtain ⟨i, hi, rfl⟩ := List.mem_iff_getElem.mp hx
    have e := fget i (by omega)
    rw [List.getElem?_eq_getElem hi] at e
    rw [Option.some.inj e]
    obtain ⟨w1, w2⟩ := kb i (by omega)
    exact ⟨_, rfl, by simp [w1, w2], fun z => by cases z⟩) (by simp; omega)
  have e0 : (fs.filter fun _ => false).map id = [] := by simp
  rw [e0] at c
  simp [st5, wipeD, c, dNe_nn]
theorem p5 (K : Int) (flK : (fs.length : Int) = K) (z1 : -4611686018427387904 ≤ K) (z2 : K < 4611686018427387904) (ρ : En) (h14 : ρ[14]? = some (some (.tup fs))) :
  bRng2 (bCons (bCon (.int 1)) (bCons (bFn dLen (bCons (bVar 14) (bNil))) (bNil))) ρ μ = some (.ok (rngD 1 (K - 1).toNat) μ) := by
  simp [h14, flK, z1, z2]
theorem st6_s (flen : fs.length = k) (k0 : 0 < k) (hk : k ≤ 1000) (q : Nat → Int × Int) (fget : ∀ i < k, fs[i]? = some (pr (q i))) (meet : ∀ i, i + 1 < k → (q (i + 1)).1 = (q i).2 + 1) (low : (q 0).1 ≤ F) : st6 (es scr sorts a s n0 y m d here days o9 o10 o11 o12 r fs F L) μ = some (.nx (es scr sorts a s n0 y m d here days o9 o10 o11 o12 r fs F L) μ) := by
  obtain ⟨K, hK⟩ : ∃ K : Int, (k : Int) = K := ⟨_, rfl⟩
  have flK : (fs.length : Int) = K := by rw [flen, hK]
  have c := cl_pure (t := tgName 9) (fc := bTst (bBin dNe (bBin dIx (bBin dIx (bVar 14) (bVar 9)) (bCon (.int 0))) (bBin dAdd (bBin dIx (bBin dIx (bVar 14) (bBin dSub (bVar 9) (bCon (.int 1)))) (bCon (.int 1))) (bCon (.int 1))))) (fe := bVar 9) (ρ := es scr sorts a s n0 y m d here days none o10 o11 o12 r fs F L) (μ := μ) (fun _ => false) id (rngD 1 (K - 1).toNat) [] (fun x hx => by
    obtain ⟨i, hi, rfl⟩ := List.mem_iff_getElem.mp hx
    obtain ⟨h1, h2⟩ := rngD_get (List.getElem?_eq_getElem hi)
    rw [h2]
    have g1 : atI fs (1 + (i : Int)) = some (pr (q (i + 1))) := by
      have := atI_ofNat fs (i + 1)
      rw [fget (i + 1) (by omega)] at this
      rw [← this]
      congr 1
      omega
    have g2 : atI fs (i : Int) = some (pr (q i)) := by rw [atI_ofNat, fget i (by omega)]
    have g3 := meet i (by omega)
    have g5 : (1 : Int) + i - 1 = i := by omega
    exact ⟨_, rfl, by simp [g1, g2, g3, g5], fun z => by cases z⟩) (by rw [rngD_len, List.length_nil]; omega)
  have e0 : ((rngD 1 (K - 1).toNat).filter fun _ => false).map id = [] := by simp
  rw [e0] at c
  have g0 : atI fs 0 = some (pr (q 0)) := by
    have := atI_ofNat fs 0
    rw [fget 0 k0] at this
    exact this
  have g7 : ¬ F < (q 0).1 := by omega
  have z1 : -4611686018427387904 ≤ K := by omega
  have z2 : K < 4611686018427387904 := by omega
  have e1 : bComp [9] (bRng2 (bCons (bCon (.int 1)) (bCons (bFn dLen (bCons (bVar 14) (bNil))) (bNil)))) (tgName 9) (bTst (bBin dNe (bBin dIx (bBin dIx (bVar 14) (bVar 9)) (bCon (.int 0))) (bBin dAdd (bBin dIx (bBin dIx (bVar 14) (bBin dSub (bVar 9) (bCon (.int 1)))) (bCon (.int 1))) (bCon (.int 1))))) (bVar 9) (es scr sorts a s n0 y m d here days o9 o10 o11 o12 r fs F L) μ = some (.ok (.lst []) μ) := by
    rw [bComp_s, p5 K flK z1 z2 _ rfl]
    show ob (cl _ _ _ (rngD 1 (K - 1).toNat) [] (es scr sorts a s n0 y m d here days none o10 o11 o12 r fs F L) μ) _ = _
    rw [c]
    rfl
  unfold st6
  rw [cIf_s, bOrT_s, bTst_s, bBin_s, e1]
  simp [dNe_nn, g0, g7]
theorem st7_s (z : Int × Int) (gl : atI fs (-1) = some (pr z)) (x : Int × Int) (ls : M__law_span [.str (sortS s), .tup [.int y, .int 12, .int 31], .int a] [] = some (.ok (pr x) [])) (h : z.2 + 1 ≤ L → z.2 + 1 = x.1) : st7 (es scr sorts a s n0 y m d here days o9 o10 o11 o12 r fs F L) μ = some (.nx (es scr sorts a s n0 y m d here days o9 o10 o11 o12 r fs F L) μ) := by
  by_cases hc : z.2 + 1 ≤ L
  · have := h hc
    simp [st7, gl, hc, purs, pur, ls, this]
  · simp [st7, gl, hc]
end
theorem spans_s {scr sorts : Option D} {a n0 : Int} {s : Nat} {y m d : Int} {here o9 o10 o11 o12 : Option D} {days : List D} {μ : Sto} {r : List (Option D)} (hs4 : s < 4) (hy : 2000 ≤ y ∧ y ≤ 2190) :
    ∃ x1 x2 x3 : D, ∀ f : Cs, cSeq st3 (cSeq st4 (cSeq st5 (cSeq st6 (cSeq st7 f)))) (eb scr sorts (.tup [.int y, .int m, .int d]) a s n0 here days o9 o10 o11 o12 (none :: none :: none :: none :: r)) μ = f (eb scr sorts (.tup [.int y, .int m, .int d]) a s n0 here days o9 o10 o11 o12 (some (.int y) :: some x1 :: some x2 :: some x3 :: r)) μ := by
  obtain ⟨N, a1, a2, a3, a4, μ', hp⟩ := periods_run s hs4 a (y := y) (by omega)
  obtain ⟨v1, v2⟩ := year_valid (y := y) (by omega)
  have n1 := dn_nn v1
  have b2 := dn_lt v2
  have hsp := year_span (y := y) (by omega)
  have hb := ylen_b y
  obtain ⟨k, k0, kN, ke, kb, kl⟩ := fnd_eq (s := s) (a := a) (F := dn y 1 1) (L := dn y 12 31) n1 b2 (by omega) a1 a3 a4
  rw [ke] at hp
  have q1 := number_s (y := y) (m := 1) (d := 1) (by omega) (by omega)
  have q2 := number_s (y := y) (m := 12) (d := 31) (by omega) (by omega)
  generalize hFS : (List.range k).map (fun i => pr (S s a (hs s a (dn y 1 1) i))) = fs at hp
  have pfs : purs fs = true := by
    rw [← hFS]
    have := (pur_prs ((List.range k).map fun i => S s a (hs s a (dn y 1 1) i))).1
    rw [List.map_map] at this
    exact this
  have fget : ∀ i < k, fs[i]? = some (pr (S s a (hs s a (dn y 1 1) i))) := fun i hi => by
    rw [← hFS, List.getElem?_map, List.getElem?_range hi]
    rfl
  have flen : fs.length = k := by rw [← hFS]; simp
  refine ⟨.tup fs, .int (dn y 1 1), .int (dn y 12 31), fun f => ?_⟩
  refine seq_nx (ρ1 := eb scr sorts (.tup [.int y, .int m, .int d]) a s n0 here days o9 o10 o11 o12 (some (.int y) :: none :: none :: none :: r)) (μ1 := μ) (by simp [st3]) ?_
  refine seq_nx (ρ1 := eb scr sorts (.tup [.int y, .int m, .int d]) a s n0 here days o9 o10 o11 o12 (some (.int y) :: some (.tup fs) :: some (.int (dn y 1 1)) :: some (.int (dn y 12 31)) :: r)) (μ1 := μ) (by simp [st4, purs, pur, hp, pfs, q1, q2]) ?_
  have hval : ∀ i ≤ N, dn y 1 1 ≤ hs s a (dn y 1 1) i := fun i hi => hs_valid n1 fun j hj => by have := a3 j (by omega); omega
  refine seq_nx (st5_s flen (by omega) (fun i => S s a (hs s a (dn y 1 1) i)) fget kb) ?_
  refine seq_nx (st6_s flen k0 (by omega) (fun i => S s a (hs s a (dn y 1 1) i)) fget (fun i hi => ?_) ?_) ?_
  · have g3 := hs_first (s := s) (a := a) (F := dn y 1 1) (j := i) n1 fun j hj => by have := a3 j (by omega); omega
    have g4 : hs s a (dn y 1 1) (i + 1) = (S s a (hs s a (dn y 1 1) i)).2 + 1 := rfl
    omega
  · exact (S_in s a n1 (by omega)).1
  obtain ⟨j, rfl⟩ : ∃ j, k = j + 1 := ⟨k - 1, by omega⟩
  have gl : atI fs (-1) = some (pr (S s a (hs s a (dn y 1 1) j))) := by
    rw [← hFS, List.range_succ, List.map_append]
    exact L2.atI_last _ _
  have ls := law_span_s s hs4 a v2
  rw [← S_dn s a v2] at ls
  refine seq_nx (st7_s _ gl _ ls fun hc => ?_) rfl
  have g4 : hs s a (dn y 1 1) (j + 1) = (S s a (hs s a (dn y 1 1) j)).2 + 1 := rfl
  rw [← g4] at hc ⊢
  have lt := kl hc
  have hjN : j + 1 < N := by
    rcases Nat.lt_or_ge (j + 1) N with h | h
    · exact h
    · have : j + 1 = N := by omega
      rw [this] at hc
      omega
  have g3 := hs_first (s := s) (a := a) (F := dn y 1 1) (j := j) n1 fun i hi => by have := a3 i (by omega); omega
  have v3 := hval (j + 1) (by omega)
  have same := S_eq s a (n := hs s a (dn y 1 1) (j + 1)) (k := dn y 12 31) (by omega) (by omega) (by omega) b2 (by omega)
  rw [same, g3]
end K01

set_option linter.all false
set_option maxRecDepth 100000
set_option maxHeartbeats 4000000
namespace K01
open PySem Mi L2
/-! comprehensions with a roll in their test -/
theorem cl_roll {v dv : Nat} {m : Int} (h0 : 0 < m) (h1 : m ≤ 100000000) {fe : Cb D} {f : D → D} {ρ : En} (hd : ∀ d : D, (ρ.set v (some d))[dv]? = some (some (.ref 0))) :
    ∀ (ds acc : List D) (a b c : Int), (∀ d ∈ ds, ∀ μ : Sto, fe (ρ.set v (some d)) μ = some (.ok (f d) μ)) → acc.length + ds.length ≤ 16777216 → ∃ (sel : List D) (a' b' c' : Int), (∀ x ∈ sel, x ∈ ds) ∧
      cl (tgName v) (bTst (bBin dEq (bCallM M__law_roll (bCons (bVar dv) (bCons (bCon (.int m)) (bNil)))) (bCon (.int 0)))) fe ds acc ρ [.lst [.int a, .int b, .int c]] = some (.ok (acc ++ sel.map f) [.lst [.int a', .int b', .int c']])
  | [], acc, a, b, c, _, _ => ⟨[], a, b, c, by intro x h; exact h, by simp [cl]⟩
  | d :: ds, acc, a, b, c, hf, hz => by
    rw [List.length_cons] at hz
    have hf' := fun x hx => hf x (List.mem_cons_of_mem d hx)
    obtain ⟨r, a1, b1, c1, r0, r1, hr⟩ := roll_s (μ := [.lst [.int a, .int b, .int c]]) (n := 0) (a := a) (b := b) (c := c) (many := m) rfl h0 h1
    have hr : gRoll [.ref 0, .int m] [.lst [.int a, .int b, .int c]] = some (.ok (.int r) [.lst [.int a1, .int b1, .int c1]]) := hr
    have e : bTst (bBin dEq (bCallM M__law_roll (bCons (bVar dv) (bCons (bCon (.int m)) (bNil)))) (bCon (.int 0))) (ρ.set v (some d)) [.lst [.int a, .int b, .int c]] = some (.ok (decide (r = 0)) [.lst [.int a1, .int b1, .int c1]]) := by
      simp [hd, lamfs, lamf, roll_eq, hr]
    unfold cl
    rw [tgName_s]
    dsimp only
    rw [e]
    by_cases hq : r = 0
    · rw [decide_eq_true hq]
      dsimp only
      rw [hf d List.mem_cons_self]
      dsimp only
      rw [if_pos (by omega)]
      obtain ⟨sel, a2, b2, c2, g1, g2⟩ := cl_roll h0 h1 hd ds (acc ++ [f d]) a1 b1 c1 hf' (by simp; omega)
      exact ⟨d :: sel, a2, b2, c2, fun x hx => by
        rcases List.mem_cons.mp hx with z | z
        · rw [z]; exact List.mem_cons_self
        · exact List.mem_cons_of_mem _ (g1 x z), by rw [g2]; simp⟩
    · rw [decide_eq_false hq]
      dsimp only
      obtain ⟨sel, a2, b2, c2, g1, g2⟩ := cl_roll h0 h1 hd ds acc a1 b1 c1 hf' (by omega)
      exact ⟨sel, a2, b2, c2, fun x hx => List.mem_cons_of_mem _ (g1 x hx), g2⟩
theorem to_ints {P : Int → Prop} : ∀ {sel : List D}, (∀ x ∈ sel, ∃ i, x = .int i ∧ P i) → ∃ is : List Int, sel = is.map .int ∧ ∀ i ∈ is, P i
  | [], _ => ⟨[], rfl, fun _ h => by cases h⟩
  | x :: sel, h => by
    obtain ⟨i, rfl, hi⟩ := h x List.mem_cons_self
    obtain ⟨is, h1, h2⟩ := to_ints (sel := sel) fun y hy => h y (List.mem_cons_of_mem _ hy)
    exact ⟨i :: is, by rw [h1]; rfl, fun j hj => by
      rcases List.mem_cons.mp hj with z | z
      · rw [z]; exact hi
      · exact h2 j z⟩
abbrev e2 (q0 q1 : Option D) (y m d : Int) (q4 q5 : Option D) (n0 : Int) (q7 : Option D) (days : List D) (q9 q10 q11 q12 q13 q14 q15 q16 : Option D) (r : List (Option D)) : En :=
  q0 :: q1 :: some (.ref 0) :: some (.tup [.int y, .int m, .int d]) :: q4 :: q5 :: some (.int n0) :: q7 :: some (.lst days) :: q9 :: q10 :: q11 :: q12 :: q13 :: q14 :: q15 :: q16 :: r
section
variable {q0 q1 q4 q5 q7 q9 q10 q11 q12 q13 q14 q15 q16 : Option D} {y m d n0 : Int} {days : List D} {a b c : Int} {μ : Sto}
theorem st8_s (r : List (Option D)) : ∃ (week free : List Int) (long a' b' c' : Int), (∀ x ∈ week, 0 ≤ x ∧ x ≤ 6) ∧ (∀ x ∈ free, n0 ≤ x ∧ x ≤ n0 + 39) ∧ (0 ≤ long ∧ long < 39) ∧
    st8 (e2 q0 q1 y m d q4 q5 n0 q7 days q9 q10 q11 q12 q13 q14 q15 q16 (none :: none :: none :: none :: r)) [.lst [.int a, .int b, .int c]] =
      some (.nx (e2 q0 q1 y m d q4 q5 n0 q7 days q9 q10 q11 q12 q13 q14 q15 q16 (some (.lst (week.map .int)) :: some (.lst (free.map .int)) :: some (.int long) :: none :: r)) [.lst [.int a', .int b', .int c']]) := by
  obtain ⟨s1, a1, b1, c1, g1, g2⟩ := cl_roll (v := 20) (dv := 2) (m := 2) (by omega) (by omega) (fe := bVar 20) (f := id) (ρ := e2 q0 q1 y m d q4 q5 n0 q7 days q9 q10 q11 q12 q13 q14 q15 q16 (none :: none :: none :: none :: r)) (fun d => rfl) (rngD 0 7) [] a b c (fun d _ μ => rfl) (by rw [rngD_len]; decide)
  obtain ⟨s2, a2, b2, c2, k1, k2⟩ := cl_roll (v := 9) (dv := 2) (m := 5) (by omega) (by omega) (fe := bBin dAdd (bVar 6) (bVar 9)) (f := fun x => match x with | .int i => .int (n0 + i) | _ => .non) (ρ := e2 q0 q1 y m d q4 q5 n0 q7 days none q10 q11 q12 q13 q14 q15 q16 (none :: none :: none :: none :: r)) (fun d => rfl) (rngD 0 40) [] a1 b1 c1 (fun d hd μ => by
    obtain ⟨i, hi, rfl⟩ := List.mem_iff_getElem.mp hd
    obtain ⟨h1, h2⟩ := rngD_get (List.getElem?_eq_getElem hi)
    rw [h2]
    rfl) (by rw [rngD_len]; decide)
  obtain ⟨rl, a3, b3, c3, r0, r1, hr⟩ := roll_s (μ := [.lst [.int a2, .int b2, .int c2]]) (n := 0) (a := a2) (b := b2) (c := c2) (many := 39) rfl (by omega) (by omega)
  have hr : gRoll [.ref 0, .int 39] [.lst [.int a2, .int b2, .int c2]] = some (.ok (.int rl) [.lst [.int a3, .int b3, .int c3]]) := hr
  obtain ⟨week, w1, w2⟩ := to_ints (sel := s1) (P := fun x => 0 ≤ x ∧ x ≤ 6) fun x hx => by
    obtain ⟨i, hi, rfl⟩ := List.mem_iff_getElem.mp (g1 x hx)
    obtain ⟨h1, h2⟩ := rngD_get (List.getElem?_eq_getElem hi)
    exact ⟨_, h2, by omega⟩
  obtain ⟨free, f1, f2⟩ := to_ints (sel := s2.map fun x => match x with | .int i => .int (n0 + i) | _ => .non) (P := fun x => n0 ≤ x ∧ x ≤ n0 + 39) fun x hx => by
    obtain ⟨z, hz, rfl⟩ := List.mem_map.mp hx
    obtain ⟨i, hi, rfl⟩ := List.mem_iff_getElem.mp (k1 z hz)
    obtain ⟨h1, h2⟩ := rngD_get (List.getElem?_eq_getElem hi)
    rw [h2]
    exact ⟨_, rfl, by omega⟩
  rw [List.nil_append, List.map_id, w1] at g2
  rw [List.nil_append, f1] at k2
  refine ⟨week, free, rl, a3, b3, c3, w2, f2, ⟨r0, r1⟩, ?_⟩
  have t7 : (7 : Int).toNat = 7 := rfl
  have t40 : (40 : Int).toNat = 40 := rfl
  have x1 : bComp [20] (bRng1 (bCons (bCon (.int 7)) (bNil))) (tgName 20) (bTst (bBin dEq (bCallM M__law_roll (bCons (bVar 2) (bCons (bCon (.int 2)) (bNil)))) (bCon (.int 0)))) (bVar 20) (e2 q0 q1 y m d q4 q5 n0 q7 days q9 q10 q11 q12 q13 q14 q15 q16 (none :: none :: none :: none :: r)) [.lst [.int a, .int b, .int c]] = some (.ok (.lst (week.map .int)) [.lst [.int a1, .int b1, .int c1]]) := by
    rw [bComp_s]
    simp only [bRng1_s, bCons_s, bCon_s, bNil_s, ob]
    rw [if_pos (by decide), t7]
    dsimp only
    show ob (cl _ _ _ (rngD 0 7) [] (e2 q0 q1 y m d q4 q5 n0 q7 days q9 q10 q11 q12 q13 q14 q15 q16 (none :: none :: none :: none :: r)) _) _ = _
    rw [g2]
    rfl
  have x2 : bComp [9] (bRng1 (bCons (bCon (.int 40)) (bNil))) (tgName 9) (bTst (bBin dEq (bCallM M__law_roll (bCons (bVar 2) (bCons (bCon (.int 5)) (bNil)))) (bCon (.int 0)))) (bBin dAdd (bVar 6) (bVar 9)) (e2 q0 q1 y m d q4 q5 n0 q7 days q9 q10 q11 q12 q13 q14 q15 q16 (none :: none :: none :: none :: r)) [.lst [.int a1, .int b1, .int c1]] = some (.ok (.lst (free.map .int)) [.lst [.int a2, .int b2, .int c2]]) := by
    rw [bComp_s]
    simp only [bRng1_s, bCons_s, bCon_s, bNil_s, ob]
    rw [if_pos (by decide), t40]
    dsimp only
    show ob (cl _ _ _ (rngD 0 40) [] (e2 q0 q1 y m d q4 q5 n0 q7 days none q10 q11 q12 q13 q14 q15 q16 (none :: none :: none :: none :: r)) _) _ = _
    rw [k2]
    rfl
  have x3 : bCallM M__law_roll (bCons (bVar 2) (bCons (bCon (.int 39)) (bNil))) (e2 q0 q1 y m d q4 q5 n0 q7 days q9 q10 q11 q12 q13 q14 q15 q16 (none :: none :: none :: none :: r)) [.lst [.int a2, .int b2, .int c2]] = some (.ok (.int rl) [.lst [.int a3, .int b3, .int c3]]) := by
    simp [roll_eq, lamfs, lamf, hr]
  unfold st8
  rw [cAsg_s, bTup_s, bCons_s, x1]
  dsimp only [ob]
  rw [bCons_s, x2]
  dsimp only [ob]
  rw [bCons_s, x3]
  simp
end
end K01

set_option linter.all false
set_option maxRecDepth 100000
set_option maxHeartbeats 4000000
namespace K01
open PySem Mi L2
section
variable {q0 q1 q4 q5 q7 q9 q10 q11 q12 q13 q14 q15 q16 : Option D} {y m d n0 : Int} {days : List D} {a b c : Int} {μ : Sto} {week free : List Int} {long lag : Int} {u1 u2 u3 u4 u5 u6 u7 u8 u9 u10 u11 : Option D} {u : List (Option D)}
abbrev e3 (q0 q1 : Option D) (y m d : Int) (q4 q5 : Option D) (n0 : Int) (q7 : Option D) (days : List D) (q9 q10 q11 q12 q13 q14 q15 q16 : Option D) (week free : List Int) (long : Int) (u : List (Option D)) : En :=
  e2 q0 q1 y m d q4 q5 n0 q7 days q9 q10 q11 q12 q13 q14 q15 q16 (some (.lst (week.map .int)) :: some (.lst (free.map .int)) :: some (.int long) :: none :: u)
theorem st9_s (h0 : 0 ≤ n0 ∧ n0 < 1000000) (hl : 0 ≤ long ∧ long < 39) :
    st9 (e3 q0 q1 y m d q4 q5 n0 q7 days q9 q10 q11 q12 q13 q14 q15 q16 week free long (none :: u)) μ = some (.nx (e3 q0 q1 y m d q4 q5 n0 q7 days q9 q10 q11 q12 q13 q14 q15 q16 week free long (some (.lst ((rngD n0 (n0 + long + 1 - n0).toNat).filter (wkD week free))) :: u)) μ) := by
  have c := cl_pure (t := tgName 10) (fc := bAndT (bTst (bBin dIn (bBin dMod (bBin dAdd (bVar 10) (bCon (.int 5))) (bCon (.int 7))) (bVar 17))) (bTst (bBin dNin (bVar 10) (bVar 18)))) (fe := bVar 10) (ρ := e3 q0 q1 y m d q4 q5 n0 q7 days q9 none q11 q12 q13 q14 q15 q16 week free long (none :: u)) (μ := μ)
    (wkD week free) id (rngD n0 (n0 + long + 1 - n0).toNat) [] (fun x hx => by
      obtain ⟨i, hi, rfl⟩ := List.mem_iff_getElem.mp hx
      obtain ⟨h1, h2⟩ := rngD_get (List.getElem?_eq_getElem hi)
      rw [h2]
      refine ⟨_, rfl, ?_, fun _ => rfl⟩
      cases hw2 : decide ((n0 + (i : Nat) + 5) % 7 ∈ week) <;> simp [modOk, dIn_ints, dNin_ints, wkD, wk, hw2]) (by rw [rngD_len]; simp; omega)
  rw [List.nil_append, List.map_id] at c
  have z1 : -4611686018427387904 ≤ n0 ∧ n0 < 4611686018427387904 := by omega
  have z2 : -4611686018427387904 ≤ n0 + long + 1 ∧ n0 + long + 1 < 4611686018427387904 := by omega
  have x1 : bRng2 (bCons (bVar 6) (bCons (bBin dAdd (bBin dAdd (bVar 6) (bVar 19)) (bCon (.int 1))) (bNil))) (e3 q0 q1 y m d q4 q5 n0 q7 days q9 q10 q11 q12 q13 q14 q15 q16 week free long (none :: u)) μ = some (.ok (rngD n0 (n0 + long + 1 - n0).toNat) μ) := by
    simp [z1, z2]
  unfold st9
  rw [cSet_s, bComp_s, x1]
  show obS (ob (cl _ _ _ _ [] (e3 q0 q1 y m d q4 q5 n0 q7 days q9 none q11 q12 q13 q14 q15 q16 week free long (none :: u)) μ) _) _ _ = _
  rw [c]
  simp
theorem st10_s (h0 : 0 ≤ n0 ∧ n0 < 1000000) (hl : 0 ≤ long ∧ long < 39) (hw : ∀ x ∈ week, 0 ≤ x ∧ x ≤ 6) :
    st10 (e3 q0 q1 y m d q4 q5 n0 q7 days q9 q10 q11 q12 q13 q14 q15 q16 week free long (some (.lst ((rngD n0 (n0 + long + 1 - n0).toNat).filter (wkD week free))) :: u)) μ = some (.nx (e3 q0 q1 y m d q4 q5 n0 q7 days q9 q10 q11 q12 q13 q14 q15 q16 week free long (some (.lst ((rngD n0 (n0 + long + 1 - n0).toNat).filter (wkD week free))) :: u)) μ) := by
  have e := work_days_s (f := n0) (l := n0 + long) (week := week) (free := free) (by omega) hw (by omega)
  generalize ((rngD n0 (n0 + long + 1 - n0).toNat).filter (wkD week free)) = xs at *
  unfold st10
  simp [e, purs, pur, purs_ints]
theorem st11_s : ∃ lag a' b' c', (0 ≤ lag ∧ lag < 9) ∧ st11 (e3 q0 q1 y m d q4 q5 n0 q7 days q9 q10 q11 q12 q13 q14 q15 q16 week free long (u1 :: none :: u)) [.lst [.int a, .int b, .int c]] = some (.nx (e3 q0 q1 y m d q4 q5 n0 q7 days q9 q10 q11 q12 q13 q14 q15 q16 week free long (u1 :: some (.int lag) :: u)) [.lst [.int a', .int b', .int c']]) := by
  obtain ⟨r, a1, b1, c1, r0, r1, hr⟩ := roll_s (μ := [.lst [.int a, .int b, .int c]]) (n := 0) (a := a) (b := b) (c := c) (many := 9) rfl (by omega) (by omega)
  have hr : gRoll [.ref 0, .int 9] [.lst [.int a, .int b, .int c]] = some (.ok (.int r) [.lst [.int a1, .int b1, .int c1]]) := hr
  refine ⟨r, a1, b1, c1, ⟨r0, r1⟩, ?_⟩
  unfold st11
  simp [roll_eq, lamfs, lamf, hr]
/-- what is able: from the latest down -/
def abl (week free : List Int) (lo : Int) (x : D) : Bool := match x with | .int i => wk week free i && decide (lo ≤ i) | _ => false
theorem dnD_get {i : Int} {n j : Nat} {d : D} (h : (dnD i n)[j]? = some d) : j < n ∧ d = .int (i - j) := by
  unfold dnD at h
  rw [List.getElem?_map] at h
  obtain ⟨z, h1, h2⟩ := Option.map_eq_some_iff.mp h
  obtain ⟨h3, h4⟩ := List.getElem?_eq_some_iff.mp h1
  simp at h3 h4
  exact ⟨h3, by rw [← h2, ← h4]⟩
theorem dnD_len (i : Int) (n : Nat) : (dnD i n).length = n := by unfold dnD; simp
theorem st12_s (h0 : 0 ≤ n0 ∧ n0 < 1000000) (hl : 0 ≤ lag ∧ lag < 9) : st12 (e3 q0 q1 y m d q4 q5 n0 q7 days q9 q10 q11 q12 q13 q14 q15 q16 week free long (u1 :: some (.int lag) :: none :: u)) μ = some (.nx (e3 q0 q1 y m d q4 q5 n0 q7 days q9 q10 q11 q12 q13 q14 q15 q16 week free long (u1 :: some (.int lag) :: some (.lst ((dnD (n0 + 20 + lag) 61).filter (abl week free (n0 + lag - 39)))) :: u)) μ) := by
  have c := cl_pure (t := tgName 10) (fc := bAndT (bTst (bBin dIn (bBin dMod (bBin dAdd (bVar 10) (bCon (.int 5))) (bCon (.int 7))) (bVar 17))) (bAndT (bTst (bBin dNin (bVar 10) (bVar 18))) (bTst (bBin dGe (bVar 10) (bBin dSub (bBin dAdd (bVar 6) (bVar 22)) (bCon (.int 39))))))) (fe := bVar 10) (ρ := e3 q0 q1 y m d q4 q5 n0 q7 days q9 none q11 q12 q13 q14 q15 q16 week free long (u1 :: some (.int lag) :: none :: u)) (μ := μ)
    (abl week free (n0 + lag - 39)) id (dnD (n0 + 20 + lag) 61) [] (fun x hx => by
      obtain ⟨i, hi, rfl⟩ := List.mem_iff_getElem.mp hx
      obtain ⟨h1, h2⟩ := dnD_get (List.getElem?_eq_getElem hi)
      rw [h2]
      refine ⟨_, rfl, ?_, fun _ => rfl⟩
      by_cases hw2 : (n0 + 20 + lag - (i : Nat) + 5) % 7 ∈ week <;> by_cases hf2 : (n0 + 20 + lag - (i : Nat)) ∈ free <;> simp [modOk, dIn_ints, dNin_ints, abl, wk, hw2, hf2]) (by rw [dnD_len]; simp)
  rw [List.nil_append, List.map_id] at c
  have z1 : -4611686018427387904 ≤ n0 + 20 + lag ∧ n0 + 20 + lag < 4611686018427387904 := by omega
  have z2 : -4611686018427387904 ≤ n0 + lag - 41 ∧ n0 + lag - 41 < 4611686018427387904 := by omega
  have hn : (n0 + 20 + lag - (n0 + lag - 41)).toNat = 61 := by omega
  have x1 : bRng3n (bCons (bBin dAdd (bBin dAdd (bVar 6) (bCon (.int 20))) (bVar 22)) (bCons (bBin dSub (bBin dAdd (bVar 6) (bVar 22)) (bCon (.int 41))) (bCons (bNeg (bCon (.int 1))) (bNil)))) (e3 q0 q1 y m d q4 q5 n0 q7 days q9 q10 q11 q12 q13 q14 q15 q16 week free long (u1 :: some (.int lag) :: none :: u)) μ = some (.ok (dnD (n0 + 20 + lag) 61) μ) := by
    simp [z1, z2, hn]
  unfold st12
  rw [cSet_s, bComp_s, x1]
  show obS (ob (cl _ _ _ _ [] (e3 q0 q1 y m d q4 q5 n0 q7 days q9 none q11 q12 q13 q14 q15 q16 week free long (u1 :: some (.int lag) :: none :: u)) μ) _) _ _ = _
  rw [c]
  simp
/-- the first work day from the latest down -/
theorem first_ex (hw : week ≠ []) (hww : ∀ x ∈ week, 0 ≤ x ∧ x ≤ 6) (hf : ∀ x ∈ free, n0 ≤ x ∧ x ≤ n0 + 39) (hl : 0 ≤ lag ∧ lag < 9) : ∃ j : Nat, j < 60 ∧ wk week free (n0 + 20 + lag - j) = true ∧ ∀ i : Nat, i < j → wk week free (n0 + 20 + lag - i) = false := by
  have key : ∀ k : Nat, (∀ i : Nat, i < k → wk week free (n0 + 20 + lag - i) = false) ∨ ∃ j : Nat, j < k ∧ wk week free (n0 + 20 + lag - j) = true ∧ ∀ i : Nat, i < j → wk week free (n0 + 20 + lag - i) = false := by
    intro k
    induction k with
    | zero => exact .inl fun i hi => by omega
    | succ k ih =>
      rcases ih with h | ⟨j, h1, h2⟩
      · cases e : wk week free (n0 + 20 + lag - k) with
        | false =>
          left
          intro i hi
          by_cases z : i = k
          · subst z; exact e
          · exact h i (by omega)
        | true => exact .inr ⟨k, by omega, e, h⟩
      · exact .inr ⟨j, by omega, h2⟩
  rcases key 60 with h | h
  · obtain ⟨w, r, rfl⟩ : ∃ w r, week = w :: r := by
      cases week with
      | nil => exact absurd rfl hw
      | cons w r => exact ⟨w, r, rfl⟩
    have hwb := hww w List.mem_cons_self
    -- the number n in [n0 - 7, n0 - 1] with that day of the week
    have hn : ∃ t : Int, 1 ≤ t ∧ t ≤ 7 ∧ (n0 - t + 5) % 7 = w := by
      refine ⟨if (n0 + 5 - w) % 7 = 0 then 7 else (n0 + 5 - w) % 7, ?_⟩
      split <;> omega
    obtain ⟨t, t1, t2, t3⟩ := hn
    have e := h (20 + lag + t).toNat (by omega)
    have e2 : n0 + 20 + lag - ((20 + lag + t).toNat : Int) = n0 - t := by omega
    rw [e2] at e
    unfold wk at e
    rw [t3] at e
    have nf : n0 - t ∉ free := fun hm => by
      have := hf _ hm
      omega
    simp [nf] at e
  · exact h
theorem filt_dn (i0 : Int) (n : Nat) (p : D → Bool) (j : Nat) (hj : j < n) (hp : p (.int (i0 - j)) = true) (hb : ∀ i : Nat, i < j → p (.int (i0 - i)) = false) : atI ((dnD i0 n).filter p) 0 = some (.int (i0 - j)) := by
  obtain ⟨k, rfl⟩ : ∃ k, n = j + (1 + k) := ⟨n - j - 1, by omega⟩
  have app : ∀ (i0 : Int) (x z : Nat), dnD i0 (x + z) = dnD i0 x ++ dnD (i0 - x) z := fun i0 x z => by
    unfold dnD
    rw [List.range_add, List.map_append, List.map_map]
    congr 1
    apply List.map_congr_left
    intro i _
    show D.int (i0 - ((x + i : Nat) : Int)) = D.int (i0 - x - i)
    congr 1
    omega
  rw [app, List.filter_append, app]
  have h1 : (dnD i0 j).filter p = [] := by
    rw [List.filter_eq_nil_iff]
    intro x hx
    obtain ⟨i, hi, rfl⟩ := List.mem_iff_getElem.mp hx
    obtain ⟨h1, h2⟩ := dnD_get (List.getElem?_eq_getElem hi)
    rw [h2, hb i h1]
    decide
  have h2 : dnD (i0 - j) 1 = [.int (i0 - j)] := by simp [dnD]
  rw [h1, h2, List.nil_append, List.filter_append]
  simp [hp]
end
end K01

set_option linter.all false
set_option maxRecDepth 100000
set_option maxHeartbeats 4000000
namespace K01
open PySem Mi L2
section
variable {q0 q1 q4 q5 q7 q9 q10 q11 q12 q13 q14 q15 q16 : Option D} {y m d n0 : Int} {days : List D} {a b c : Int} {μ : Sto} {week free : List Int} {long lag : Int} {u1 u2 u3 u4 u5 u6 u7 u8 u9 u10 u11 : Option D} {u : List (Option D)}
theorem st13_14 (h0 : 0 ≤ n0 ∧ n0 < 1000000) (hl : 0 ≤ lag ∧ lag < 9) (hww : ∀ x ∈ week, 0 ≤ x ∧ x ≤ 6) (hf : ∀ x ∈ free, n0 ≤ x ∧ x ≤ n0 + 39) :
    ∃ tv : Option D, ∀ f : Cs, cSeq st13 (cSeq st14 f) (e3 q0 q1 y m d q4 q5 n0 q7 days q9 q10 q11 q12 q13 q14 q15 q16 week free long (u1 :: some (.int lag) :: some (.lst ((dnD (n0 + 20 + lag) 61).filter (abl week free (n0 + lag - 39)))) :: none :: u)) μ =
      f (e3 q0 q1 y m d q4 q5 n0 q7 days q9 q10 q11 q12 q13 q14 q15 q16 week free long (u1 :: some (.int lag) :: some (.lst ((dnD (n0 + 20 + lag) 61).filter (abl week free (n0 + lag - 39)))) :: tv :: u)) μ := by
  by_cases hw : week = []
  · subst hw
    have e := paid_x (l := n0 + 20) (g := lag) (free := free) hl.1
    generalize ((dnD (n0 + 20 + lag) 61).filter (abl [] free (n0 + lag - 39))) = xs at *
    have x1 : bTold told_ret told_en (bCallP M_paid_on (bCons (bBin dAdd (bVar 6) (bCon (.int 20))) (bCons (bVar 22) (bCons (bVar 17) (bCons (bVar 18) (bNil)))))) (e3 q0 q1 y m d q4 q5 n0 q7 days q9 q10 q11 q12 q13 q14 q15 q16 [] free long (u1 :: some (.int lag) :: some (.lst xs) :: none :: u)) μ = some (.ok (.str told_ret) μ) := by
      unfold bTold
      have e9 : bCallP M_paid_on (bCons (bBin dAdd (bVar 6) (bCon (.int 20))) (bCons (bVar 22) (bCons (bVar 17) (bCons (bVar 18) (bNil))))) (e3 q0 q1 y m d q4 q5 n0 q7 days q9 q10 q11 q12 q13 q14 q15 q16 [] free long (u1 :: some (.int lag) :: some (.lst xs) :: none :: u)) μ = some (.exc "PeriodError" μ) := by
        simp [purs, pur, purs_ints, e]
      rw [e9]
      rfl
    refine ⟨some (.str told_ret), fun f => ?_⟩
    refine seq_nx (ρ1 := e3 q0 q1 y m d q4 q5 n0 q7 days q9 q10 q11 q12 q13 q14 q15 q16 [] free long (u1 :: some (.int lag) :: some (.lst xs) :: some (.str told_ret) :: u)) (μ1 := μ) (by unfold st13; rw [cSet_s, x1]; rfl) ?_
    refine seq_nx (ρ1 := e3 q0 q1 y m d q4 q5 n0 q7 days q9 q10 q11 q12 q13 q14 q15 q16 [] free long (u1 :: some (.int lag) :: some (.lst xs) :: some (.str told_ret) :: u)) (μ1 := μ) ?_ rfl
    have e1 : dEq μ (.lst []) (.lst []) = some (.bl true) := by rfl
    simp [st14, e1, dNe_nn]
  · obtain ⟨j, hj, hp, hn⟩ := first_ex (week := week) (free := free) (n0 := n0) (lag := lag) hw hww hf hl
    have e := paid_s (l := n0 + 20) (g := lag) (week := week) (free := free) hl.1 hw hj hp hn
    have g := filt_dn (n0 + 20 + lag) 61 (abl week free (n0 + lag - 39)) j (by omega) (by
      show (wk week free (n0 + 20 + lag - j) && decide (n0 + lag - 39 ≤ n0 + 20 + lag - j)) = true
      rw [hp, decide_eq_true (by omega)]
      rfl) (fun i hi => by
      show (wk week free (n0 + 20 + lag - i) && _) = false
      rw [hn i hi]
      rfl)
    generalize ((dnD (n0 + 20 + lag) 61).filter (abl week free (n0 + lag - 39))) = xs at *
    have x1 : bTold told_ret told_en (bCallP M_paid_on (bCons (bBin dAdd (bVar 6) (bCon (.int 20))) (bCons (bVar 22) (bCons (bVar 17) (bCons (bVar 18) (bNil)))))) (e3 q0 q1 y m d q4 q5 n0 q7 days q9 q10 q11 q12 q13 q14 q15 q16 week free long (u1 :: some (.int lag) :: some (.lst xs) :: none :: u)) μ = some (.ok (.int (n0 + 20 + lag - j)) μ) := by
      unfold bTold
      have e9 : bCallP M_paid_on (bCons (bBin dAdd (bVar 6) (bCon (.int 20))) (bCons (bVar 22) (bCons (bVar 17) (bCons (bVar 18) (bNil))))) (e3 q0 q1 y m d q4 q5 n0 q7 days q9 q10 q11 q12 q13 q14 q15 q16 week free long (u1 :: some (.int lag) :: some (.lst xs) :: none :: u)) μ = some (.ok (.int (n0 + 20 + lag - j)) μ) := by
        simp [purs, pur, purs_ints, e]
      rw [e9]
    refine ⟨some (.int (n0 + 20 + lag - j)), fun f => ?_⟩
    refine seq_nx (ρ1 := e3 q0 q1 y m d q4 q5 n0 q7 days q9 q10 q11 q12 q13 q14 q15 q16 week free long (u1 :: some (.int lag) :: some (.lst xs) :: some (.int (n0 + 20 + lag - j)) :: u)) (μ1 := μ) (by unfold st13; rw [cSet_s, x1]; rfl) ?_
    refine seq_nx (ρ1 := e3 q0 q1 y m d q4 q5 n0 q7 days q9 q10 q11 q12 q13 q14 q15 q16 week free long (u1 :: some (.int lag) :: some (.lst xs) :: some (.int (n0 + 20 + lag - j)) :: u)) (μ1 := μ) ?_ rfl
    simp [st14, dEq_nil, dNe_nil, hw, g]
theorem st15_s : ∃ r more a' b' c', (0 ≤ r ∧ r < 30) ∧ (0 ≤ more ∧ more < 900) ∧ st15 (e3 q0 q1 y m d q4 q5 n0 q7 days q9 q10 q11 q12 q13 q14 q15 q16 week free long (u1 :: u2 :: u3 :: u4 :: none :: none :: u)) [.lst [.int a, .int b, .int c]] =
    some (.nx (e3 q0 q1 y m d q4 q5 n0 q7 days q9 q10 q11 q12 q13 q14 q15 q16 week free long (u1 :: u2 :: u3 :: u4 :: some (.int (r - 5 * (if 2000 < y then 1 else 0))) :: some (.int more) :: u)) [.lst [.int a', .int b', .int c']]) := by
  obtain ⟨r, a1, b1, c1, r0, r1, hr⟩ := roll_s (μ := [.lst [.int a, .int b, .int c]]) (n := 0) (a := a) (b := b) (c := c) (many := 30) rfl (by omega) (by omega)
  have hr : gRoll [.ref 0, .int 30] [.lst [.int a, .int b, .int c]] = some (.ok (.int r) [.lst [.int a1, .int b1, .int c1]]) := hr
  obtain ⟨t, a2, b2, c2, t0, t1, ht⟩ := roll_s (μ := [.lst [.int a1, .int b1, .int c1]]) (n := 0) (a := a1) (b := b1) (c := c1) (many := 900) rfl (by omega) (by omega)
  have ht : gRoll [.ref 0, .int 900] [.lst [.int a1, .int b1, .int c1]] = some (.ok (.int t) [.lst [.int a2, .int b2, .int c2]]) := ht
  refine ⟨r, t, a2, b2, c2, ⟨r0, r1⟩, ⟨t0, t1⟩, ?_⟩
  unfold st15
  simp [roll_eq, lamfs, lamf, hr, ht, mulOk]
theorem st16_s {more : Int} {W : Nat} (hv : Valid y m d) (hy : y ≤ 2190) (hd : d ≤ 28) (hW : W < 39) (hk : ∀ k : Nat, mv y m d k ≤ n0 + more ↔ k ≤ W) :
    st16 (e3 q0 q1 y m d q4 q5 n0 q7 days q9 q10 q11 q12 q13 q14 q15 q16 week free long (u1 :: u2 :: u3 :: u4 :: u5 :: some (.int more) :: none :: none :: u)) μ = some (.nx (e3 q0 q1 y m d q4 q5 n0 q7 days q9 q10 q11 q12 q13 q14 q15 q16 week free long (u1 :: u2 :: u3 :: u4 :: u5 :: some (.int more) :: some (.int W) :: none :: u)) μ) := by
  have hyy := hv.hy
  have hmm := hv.hm
  have c := cl_pure (t := tgName 28) (fc := bTst (bBin dLe (bCallP M__law_moved (bCons (bVar 3) (bCons (bVar 28) (bNil)))) (bBin dAdd (bVar 6) (bVar 26)))) (fe := bVar 28) (ρ := e3 q0 q1 y m d q4 q5 n0 q7 days q9 q10 q11 q12 q13 q14 q15 q16 week free long (u1 :: u2 :: u3 :: u4 :: u5 :: some (.int more) :: none :: none :: u)) (μ := μ)
    (fun x => match x with | .int i => decide (mv y m d i ≤ n0 + more) | _ => false) id (rngD 0 40) [] (fun x hx => by
      obtain ⟨i, hi, rfl⟩ := List.mem_iff_getElem.mp hx
      obtain ⟨h1, h2⟩ := rngD_get (List.getElem?_eq_getElem hi)
      rw [h2]
      refine ⟨_, rfl, ?_, fun _ => rfl⟩
      have e := (moved_s (k := 0 + (i : Nat)) hv hd (by omega)).2
      have z : (0 : Int) + (i : Nat) = i := by omega
      rw [z] at e ⊢
      simp [purs, pur, e]) (by rw [rngD_len]; simp)
  rw [List.nil_append, List.map_id] at c
  have e40 : (40 : Nat) = (W + 1) + (39 - W) := by omega
  have ef : (rngD 0 40).filter (fun x => match x with | .int i => decide (mv y m d i ≤ n0 + more) | _ => false) = rngD 0 W ++ [.int W] := by
    rw [e40, rngD_app, List.filter_append]
    have h1 : (rngD 0 (W + 1)).filter (fun x => match x with | .int i => decide (mv y m d i ≤ n0 + more) | _ => false) = rngD 0 (W + 1) := by
      rw [List.filter_eq_self]
      intro x hx
      obtain ⟨i, hi, rfl⟩ := List.mem_iff_getElem.mp hx
      obtain ⟨h1, h2⟩ := rngD_get (List.getElem?_eq_getElem hi)
      rw [h2]
      have z : (0 : Int) + (i : Nat) = i := by omega
      rw [z]
      exact decide_eq_true ((hk i).mpr (by omega))
    have h2 : (rngD (0 + ((W + 1 : Nat) : Int)) (39 - W)).filter (fun x => match x with | .int i => decide (mv y m d i ≤ n0 + more) | _ => false) = [] := by
      rw [List.filter_eq_nil_iff]
      intro x hx
      obtain ⟨i, hi, rfl⟩ := List.mem_iff_getElem.mp hx
      obtain ⟨h1, h2⟩ := rngD_get (List.getElem?_eq_getElem hi)
      rw [h2]
      have z : (0 : Int) + ((W + 1 : Nat) : Int) + (i : Nat) = ((W + 1 + i : Nat) : Int) := by omega
      rw [z]
      have hh : ¬ mv y m d ((W + 1 + i : Nat) : Int) ≤ n0 + more := mt (hk (W + 1 + i)).mp (by omega)
      show ¬ decide (mv y m d ((W + 1 + i : Nat) : Int) ≤ n0 + more) = true
      rw [decide_eq_true_eq]
      exact hh
    rw [h1, h2, List.append_nil, rngD_snoc]
    have z : (0 : Int) + (W : Nat) = W := by omega
    rw [z]
  rw [ef] at c
  have t40 : (40 : Int).toNat = 40 := rfl
  have x1 : bComp [28] (bRng1 (bCons (bCon (.int 40)) (bNil))) (tgName 28) (bTst (bBin dLe (bCallP M__law_moved (bCons (bVar 3) (bCons (bVar 28) (bNil)))) (bBin dAdd (bVar 6) (bVar 26)))) (bVar 28) (e3 q0 q1 y m d q4 q5 n0 q7 days q9 q10 q11 q12 q13 q14 q15 q16 week free long (u1 :: u2 :: u3 :: u4 :: u5 :: some (.int more) :: none :: none :: u)) μ = some (.ok (.lst (rngD 0 W ++ [.int W])) μ) := by
    rw [bComp_s]
    simp only [bRng1_s, bCons_s, bCon_s, bNil_s, ob]
    rw [if_pos (by decide), t40]
    dsimp only
    show ob (cl _ _ _ (rngD 0 40) [] (e3 q0 q1 y m d q4 q5 n0 q7 days q9 q10 q11 q12 q13 q14 q15 q16 week free long (u1 :: u2 :: u3 :: u4 :: u5 :: some (.int more) :: none :: none :: u)) _) _ = _
    rw [c]
    rfl
  unfold st16
  rw [cSet_s, bBin_s, x1]
  simp only [ob, bNeg_s, bCon_s, dIx_l, L2.atI_last, rt, obS]
  rfl
theorem st17_s {more mo : Int} {W : Nat} (hv : Valid y m d) (hy : y ≤ 2190) (hn : dn y m d = n0) (hd : d ≤ 28) (hW : W < 39) (hk : ∀ k : Nat, mv y m d k ≤ n0 + more ↔ k ≤ W) (hmo : 24000 ≤ 12 * y + m - 1 + mo ∧ 12 * y + m - 1 + mo ≤ 26399) :
    st17 (e3 q0 q1 y m d q4 q5 n0 q7 days q9 q10 q11 q12 q13 q14 q15 q16 week free long (u1 :: u2 :: u3 :: u4 :: some (.int mo) :: some (.int more) :: some (.int W) :: u)) μ = some (.nx (e3 q0 q1 y m d q4 q5 n0 q7 days q9 q10 q11 q12 q13 q14 q15 q16 week free long (u1 :: u2 :: u3 :: u4 :: some (.int mo) :: some (.int more) :: some (.int W) :: u)) μ) := by
  obtain ⟨m1, m2⟩ := moved_s (k := mo) hv hd hmo
  have w1 := whole_s (T := n0 + more) hv hy hd hW hk
  rw [hn] at m1 w1
  unfold st17
  simp [purs, pur, m1, m2, w1]
theorem st18_s : ∃ r t a' b' c', (0 ≤ r ∧ r < 20) ∧ (0 ≤ t ∧ t < 20) ∧ st18 (e3 q0 q1 y m d q4 q5 n0 q7 days q9 q10 q11 q12 q13 q14 q15 q16 week free long (u1 :: u2 :: u3 :: u4 :: u5 :: u6 :: u7 :: u8 :: none :: none :: u)) [.lst [.int a, .int b, .int c]] =
    some (.nx (e3 q0 q1 y m d q4 q5 n0 q7 days q9 q10 q11 q12 q13 q14 q15 q16 week free long (u1 :: u2 :: u3 :: u4 :: u5 :: u6 :: u7 :: u8 :: some (.int (n0 + r)) :: some (.int (n0 + 20 + t)) :: u)) [.lst [.int a', .int b', .int c']]) := by
  obtain ⟨r, a1, b1, c1, r0, r1, hr⟩ := roll_s (μ := [.lst [.int a, .int b, .int c]]) (n := 0) (a := a) (b := b) (c := c) (many := 20) rfl (by omega) (by omega)
  have hr : gRoll [.ref 0, .int 20] [.lst [.int a, .int b, .int c]] = some (.ok (.int r) [.lst [.int a1, .int b1, .int c1]]) := hr
  obtain ⟨t, a2, b2, c2, t0, t1, ht⟩ := roll_s (μ := [.lst [.int a1, .int b1, .int c1]]) (n := 0) (a := a1) (b := b1) (c := c1) (many := 20) rfl (by omega) (by omega)
  have ht : gRoll [.ref 0, .int 20] [.lst [.int a1, .int b1, .int c1]] = some (.ok (.int t) [.lst [.int a2, .int b2, .int c2]]) := ht
  refine ⟨r, t, a2, b2, c2, ⟨r0, r1⟩, ⟨t0, t1⟩, ?_⟩
  unfold st18
  simp [roll_eq, lamfs, lamf, hr, ht]
theorem st19_s {lo hi : Int} {p : Int × Int} (h0 : 0 ≤ n0 ∧ n0 < 1000000) (hlo : n0 ≤ lo ∧ lo ≤ hi ∧ hi < n0 + 100) (hp : p.1 ≤ p.2) (hd : atI days 0 = some (pr p)) :
    st19 (e3 q0 q1 y m d q4 q5 n0 q7 days q9 q10 q11 q12 q13 q14 q15 q16 week free long (u1 :: u2 :: u3 :: u4 :: u5 :: u6 :: u7 :: u8 :: some (.int lo) :: some (.int hi) :: none :: u)) μ =
      some (.nx (e3 q0 q1 y m d q4 q5 n0 q7 days q9 q10 q11 q12 q13 q14 q15 q16 week free long (u1 :: u2 :: u3 :: u4 :: u5 :: u6 :: u7 :: u8 :: some (.int lo) :: some (.int hi) :: none :: u)) μ) := by
  have e := share_s (lo := lo) (hi := hi) (f := p.1) (l := p.2) hlo.2.1 hp
  have c := cl_pure (t := tgName 31) (fc := bTst (bChain dLe dLe (bBin dIx (bBin dIx (bVar 8) (bCon (.int 0))) (bCon (.int 0))) (bVar 31) (bBin dIx (bBin dIx (bVar 8) (bCon (.int 0))) (bCon (.int 1))))) (fe := bVar 31) (ρ := e3 q0 q1 y m d q4 q5 n0 q7 days q9 q10 q11 q12 q13 q14 q15 q16 week free long (u1 :: u2 :: u3 :: u4 :: u5 :: u6 :: u7 :: u8 :: some (.int lo) :: some (.int hi) :: none :: u)) (μ := μ)
    (cntB p.1 p.2) id (rngD lo (hi + 1 - lo).toNat) [] (fun x hx => by
      obtain ⟨i, hi, rfl⟩ := List.mem_iff_getElem.mp hx
      obtain ⟨h1, h2⟩ := rngD_get (List.getElem?_eq_getElem hi)
      rw [h2]
      refine ⟨_, rfl, ?_, fun _ => rfl⟩
      by_cases a1 : p.1 ≤ lo + (i : Nat) <;> by_cases a2 : lo + (i : Nat) ≤ p.2 <;> simp [hd, cntB, a1, a2]) (by rw [rngD_len]; simp; omega)
  rw [List.nil_append, List.map_id] at c
  have g := cnt_len lo p.1 p.2 (hi + 1 - lo).toNat
  have z1 : -4611686018427387904 ≤ lo ∧ lo < 4611686018427387904 := by omega
  have z2 : -4611686018427387904 ≤ hi + 1 ∧ hi + 1 < 4611686018427387904 := by omega
  have z3 : lo + ((hi + 1 - lo).toNat : Int) - 1 = hi := by omega
  rw [z3] at g
  have x1 : bComp [31] (bRng2 (bCons (bVar 29) (bCons (bBin dAdd (bVar 30) (bCon (.int 1))) (bNil)))) (tgName 31) (bTst (bChain dLe dLe (bBin dIx (bBin dIx (bVar 8) (bCon (.int 0))) (bCon (.int 0))) (bVar 31) (bBin dIx (bBin dIx (bVar 8) (bCon (.int 0))) (bCon (.int 1))))) (bVar 31) (e3 q0 q1 y m d q4 q5 n0 q7 days q9 q10 q11 q12 q13 q14 q15 q16 week free long (u1 :: u2 :: u3 :: u4 :: u5 :: u6 :: u7 :: u8 :: some (.int lo) :: some (.int hi) :: none :: u)) μ = some (.ok (.lst ((rngD lo (hi + 1 - lo).toNat).filter (cntB p.1 p.2))) μ) := by
    have x2 : bRng2 (bCons (bVar 29) (bCons (bBin dAdd (bVar 30) (bCon (.int 1))) (bNil))) (e3 q0 q1 y m d q4 q5 n0 q7 days q9 q10 q11 q12 q13 q14 q15 q16 week free long (u1 :: u2 :: u3 :: u4 :: u5 :: u6 :: u7 :: u8 :: some (.int lo) :: some (.int hi) :: none :: u)) μ = some (.ok (rngD lo (hi + 1 - lo).toNat) μ) := by
      simp [z1, z2]
    rw [bComp_s, x2]
    show ob (cl _ _ _ _ [] (e3 q0 q1 y m d q4 q5 n0 q7 days q9 q10 q11 q12 q13 q14 q15 q16 week free long (u1 :: u2 :: u3 :: u4 :: u5 :: u6 :: u7 :: u8 :: some (.int lo) :: some (.int hi) :: none :: u)) _) _ = _
    rw [c]
    rfl
  generalize (rngD lo (hi + 1 - lo).toNat).filter (cntB p.1 p.2) = xs at *
  have x3 : bTup (bCons (bFn dLen (bCons (bComp [31] (bRng2 (bCons (bVar 29) (bCons (bBin dAdd (bVar 30) (bCon (.int 1))) (bNil)))) (tgName 31) (bTst (bChain dLe dLe (bBin dIx (bBin dIx (bVar 8) (bCon (.int 0))) (bCon (.int 0))) (bVar 31) (bBin dIx (bBin dIx (bVar 8) (bCon (.int 0))) (bCon (.int 1))))) (bVar 31)) (bNil))) (bCons (bBin dAdd (bBin dSub (bBin dIx (bBin dIx (bVar 8) (bCon (.int 0))) (bCon (.int 1))) (bBin dIx (bBin dIx (bVar 8) (bCon (.int 0))) (bCon (.int 0)))) (bCon (.int 1))) (bNil))) (e3 q0 q1 y m d q4 q5 n0 q7 days q9 q10 q11 q12 q13 q14 q15 q16 week free long (u1 :: u2 :: u3 :: u4 :: u5 :: u6 :: u7 :: u8 :: some (.int lo) :: some (.int hi) :: none :: u)) μ = some (.ok (.tup [.int (mx 0 (mn hi p.2 - mx lo p.1 + 1)), .int (p.2 - p.1 + 1)]) μ) := by
    rw [bTup_s, bCons_s, bFn_s, bCons_s, x1]
    simp [hd, g]
  have x4 : bCallP M_share_of_days (bCons (bVar 29) (bCons (bVar 30) (bCons (bBin dIx (bVar 8) (bCon (.int 0))) (bNil)))) (e3 q0 q1 y m d q4 q5 n0 q7 days q9 q10 q11 q12 q13 q14 q15 q16 week free long (u1 :: u2 :: u3 :: u4 :: u5 :: u6 :: u7 :: u8 :: some (.int lo) :: some (.int hi) :: none :: u)) μ = some (.ok (.tup [.int (mx 0 (mn hi p.2 - mx lo p.1 + 1)), .int (p.2 - p.1 + 1)]) μ) := by
    simp [hd, purs, pur, e]
  unfold st19
  rw [cIf_s, bTst_s, bBin_s, x4]
  dsimp only [ob]
  rw [x3]
  simp
end
end K01

set_option linter.all false
set_option maxRecDepth 100000
set_option maxHeartbeats 4000000
namespace K01
open PySem Mi L2
theorem st0_s {q0 : Option D} {a b c : Int} : ∃ r1 r2 r3 r4 s a' b' c', (0 ≤ r1 ∧ r1 < 120) ∧ (0 ≤ r2 ∧ r2 < 12) ∧ (0 ≤ r3 ∧ r3 < 28) ∧ s < 4 ∧
    st0 (q0 :: some (.lst [.str "week", .str "two weeks", .str "half month", .str "month"]) :: some (.ref 0) :: List.replicate 29 none) [.lst [.int a, .int b, .int c]] =
      some (.nx (q0 :: some (.lst [.str "week", .str "two weeks", .str "half month", .str "month"]) :: some (.ref 0) :: some (.tup [.int (2000 + r1), .int (1 + r2), .int (1 + r3)]) :: some (.int r4) :: some (.str (sortS s)) :: List.replicate 26 none) [.lst [.int a', .int b', .int c']]) := by
  obtain ⟨r1, a1, b1, c1, g1, g2, h1⟩ := roll_s (μ := [.lst [.int a, .int b, .int c]]) (n := 0) (a := a) (b := b) (c := c) (many := 120) rfl (by omega) (by omega)
  have h1 : gRoll [.ref 0, .int 120] [.lst [.int a, .int b, .int c]] = some (.ok (.int r1) [.lst [.int a1, .int b1, .int c1]]) := h1
  obtain ⟨r2, a2, b2, c2, g3, g4, h2⟩ := roll_s (μ := [.lst [.int a1, .int b1, .int c1]]) (n := 0) (a := a1) (b := b1) (c := c1) (many := 12) rfl (by omega) (by omega)
  have h2 : gRoll [.ref 0, .int 12] [.lst [.int a1, .int b1, .int c1]] = some (.ok (.int r2) [.lst [.int a2, .int b2, .int c2]]) := h2
  obtain ⟨r3, a3, b3, c3, g5, g6, h3⟩ := roll_s (μ := [.lst [.int a2, .int b2, .int c2]]) (n := 0) (a := a2) (b := b2) (c := c2) (many := 28) rfl (by omega) (by omega)
  have h3 : gRoll [.ref 0, .int 28] [.lst [.int a2, .int b2, .int c2]] = some (.ok (.int r3) [.lst [.int a3, .int b3, .int c3]]) := h3
  obtain ⟨r4, a4, b4, c4, g7, g8, h4⟩ := roll_s (μ := [.lst [.int a3, .int b3, .int c3]]) (n := 0) (a := a3) (b := b3) (c := c3) (many := 30) rfl (by omega) (by omega)
  have h4 : gRoll [.ref 0, .int 30] [.lst [.int a3, .int b3, .int c3]] = some (.ok (.int r4) [.lst [.int a4, .int b4, .int c4]]) := h4
  obtain ⟨r5, a5, b5, c5, g9, g10, h5⟩ := roll_s (μ := [.lst [.int a4, .int b4, .int c4]]) (n := 0) (a := a4) (b := b4) (c := c4) (many := 4) rfl (by omega) (by omega)
  have h5 : gRoll [.ref 0, .int 4] [.lst [.int a4, .int b4, .int c4]] = some (.ok (.int r5) [.lst [.int a5, .int b5, .int c5]]) := h5
  have hs : atI [D.str "week", .str "two weeks", .str "half month", .str "month"] r5 = some (.str (sortS r5.toNat)) := by
    have : r5 = 0 ∨ r5 = 1 ∨ r5 = 2 ∨ r5 = 3 := by omega
    rcases this with rfl | rfl | rfl | rfl <;> rfl
  refine ⟨r1, r2, r3, r4, r5.toNat, a5, b5, c5, ⟨g1, g2⟩, ⟨g3, g4⟩, ⟨g5, g6⟩, by omega, ?_⟩
  unfold st0
  simp [roll_eq, lamfs, lamf, h1, h2, h3, h4, h5, hs, List.replicate]
theorem body_s {q0 : Option D} {a b c : Int} : ∃ ρ' μ', bodyC (q0 :: some (.lst [.str "week", .str "two weeks", .str "half month", .str "month"]) :: some (.ref 0) :: List.replicate 29 none) [.lst [.int a, .int b, .int c]] = some (.nx ρ' μ') := by
  obtain ⟨r1, r2, r3, r4, s, a1, b1, c1, g1, g2, g3, hs4, h0⟩ := st0_s (q0 := q0) (a := a) (b := b) (c := c)
  unfold bodyC
  have hv : Valid (2000 + r1) (1 + r2) (1 + r3) := ⟨by omega, by omega, by have := dim_pos (2000 + r1) (1 + r2); omega⟩
  generalize hy : 2000 + r1 = y at *
  generalize hm : 1 + r2 = m at *
  generalize hd : 1 + r3 = d at *
  have hyy : 2000 ≤ y ∧ y ≤ 2119 := by omega
  have hd28 : d ≤ 28 := by omega
  generalize hn : dn y m d = n0
  have n00 : 0 ≤ n0 := by rw [← hn]; exact dn_nn hv
  have n01 : n0 < 1000000 := by
    have := dn_lt hv
    have h4 := yb_lpc 200
    have h5 : lpc 200 ≤ 200 := by
      unfold lpc
      have := List.length_filter_le (fun i => leap (2000 + (i : Nat))) (List.range 200)
      rw [List.length_range] at this
      exact this
    omega
  have nb := number_s (d := d) hv.hy hv.hm
  rw [hn] at nb
  have hn200 : n0 < yb 200 := by rw [← hn]; exact dn_lt hv
  obtain ⟨here, p9, p10, p11, p12, hdays⟩ := days_s (scr := q0) (sorts := some (.lst [.str "week", .str "two weeks", .str "half month", .str "month"])) (date := .tup [.int y, .int m, .int d]) (a := r4) (n0 := n0) (s := s) (y := y) (m := m) (d := d) (o9 := none) (o10 := none) (o11 := none) (o12 := none) (μ := [.lst [.int a1, .int b1, .int c1]]) hs4 hv (by omega) hn
  have hd0 : atI (dl s r4 n0 40) 0 = some (pr (S s r4 n0)) := by
    have := atI_ofNat (dl s r4 n0 40) 0
    have e : (dl s r4 n0 40)[0]? = some (pr (S s r4 (n0 + ((0 : Nat) : Int)))) := rfl
    rw [e] at this
    have z : n0 + ((0 : Nat) : Int) = n0 := by omega
    rw [z] at this
    exact this
  have hpp := S_in s r4 n00 hn200
  generalize hdl : dl s r4 n0 40 = days at *
  obtain ⟨x1, x2, x3, hsp⟩ := spans_s (scr := q0) (sorts := some (.lst [.str "week", .str "two weeks", .str "half month", .str "month"])) (a := r4) (n0 := n0) (s := s) (y := y) (m := m) (d := d) (here := here) (o9 := p9) (o10 := p10) (o11 := p11) (o12 := p12) (days := days) (μ := [.lst [.int a1, .int b1, .int c1]]) (r := List.replicate 15 none) hs4 (by omega)
  obtain ⟨week, free, long, a2, b2, c2, k1, k2, k3, h8⟩ := st8_s (q0 := q0) (q1 := some (.lst [.str "week", .str "two weeks", .str "half month", .str "month"])) (y := y) (m := m) (d := d) (q4 := some (.int r4)) (q5 := some (.str (sortS s))) (n0 := n0) (q7 := here) (days := days) (q9 := p9) (q10 := p10) (q11 := p11) (q12 := p12) (q13 := some (.int y)) (q14 := some x1) (q15 := some x2) (q16 := some x3) (a := a1) (b := b1) (c := c1) (List.replicate 11 none)
  obtain ⟨lag, a3, b3, c3, kl, h11⟩ := st11_s (q0 := q0) (q1 := some (.lst [.str "week", .str "two weeks", .str "half month", .str "month"])) (y := y) (m := m) (d := d) (q4 := some (.int r4)) (q5 := some (.str (sortS s))) (n0 := n0) (q7 := here) (days := days) (q9 := p9) (q10 := p10) (q11 := p11) (q12 := p12) (q13 := some (.int y)) (q14 := some x1) (q15 := some x2) (q16 := some x3) (a := a2) (b := b2) (c := c2) (week := week) (free := free) (long := long)
    (u1 := some (.lst ((rngD n0 (n0 + long + 1 - n0).toNat).filter (wkD week free)))) (u := List.replicate 9 none)
  obtain ⟨tv, h1314⟩ := st13_14 (q0 := q0) (q1 := some (.lst [.str "week", .str "two weeks", .str "half month", .str "month"])) (y := y) (m := m) (d := d) (q4 := some (.int r4)) (q5 := some (.str (sortS s))) (n0 := n0) (q7 := here) (days := days) (q9 := p9) (q10 := p10) (q11 := p11) (q12 := p12) (q13 := some (.int y)) (q14 := some x1) (q15 := some x2) (q16 := some x3) (week := week) (free := free) (long := long) (lag := lag) (μ := [.lst [.int a3, .int b3, .int c3]])
    (u1 := some (.lst ((rngD n0 (n0 + long + 1 - n0).toNat).filter (wkD week free)))) (u := List.replicate 7 none) ⟨n00, n01⟩ kl k1 k2
  generalize hab : some (D.lst ((dnD (n0 + 20 + lag) 61).filter (abl week free (n0 + lag - 39)))) = ab at h1314
  obtain ⟨mr, more, a4, b4, c4, km, kmo, h15⟩ := st15_s (q0 := q0) (q1 := some (.lst [.str "week", .str "two weeks", .str "half month", .str "month"])) (y := y) (m := m) (d := d) (q4 := some (.int r4)) (q5 := some (.str (sortS s))) (n0 := n0) (q7 := here) (days := days) (q9 := p9) (q10 := p10) (q11 := p11) (q12 := p12) (q13 := some (.int y)) (q14 := some x1) (q15 := some x2) (q16 := some x3) (a := a3) (b := b3) (c := c3) (week := week) (free := free) (long := long)
    (u1 := some (.lst ((rngD n0 (n0 + long + 1 - n0).toNat).filter (wkD week free)))) (u2 := some (.int lag)) (u3 := ab) (u4 := tv) (u := List.replicate 5 none)
  obtain ⟨W, hW, hk⟩ := whole_ex (y := y) (m := m) (d := d) (T := n0 + more) (by omega) hv.hm (by omega) (by omega)
  have hmo : 24000 ≤ 12 * y + m - 1 + (mr - 5 * (if 2000 < y then 1 else 0)) ∧ 12 * y + m - 1 + (mr - 5 * (if 2000 < y then 1 else 0)) ≤ 26399 := by
    have := hv.hm
    split <;> omega
  obtain ⟨lo, hi, a5, b5, c5, klo, khi, h18⟩ := st18_s (q0 := q0) (q1 := some (.lst [.str "week", .str "two weeks", .str "half month", .str "month"])) (y := y) (m := m) (d := d) (q4 := some (.int r4)) (q5 := some (.str (sortS s))) (n0 := n0) (q7 := here) (days := days) (q9 := p9) (q10 := p10) (q11 := p11) (q12 := p12) (q13 := some (.int y)) (q14 := some x1) (q15 := some x2) (q16 := some x3) (a := a4) (b := b4) (c := c4) (week := week) (free := free) (long := long)
    (u1 := some (.lst ((rngD n0 (n0 + long + 1 - n0).toNat).filter (wkD week free)))) (u2 := some (.int lag)) (u3 := ab) (u4 := tv) (u5 := some (.int (mr - 5 * (if 2000 < y then 1 else 0)))) (u6 := some (.int more)) (u7 := some (.int W)) (u8 := none) (u := List.replicate 1 none)
  apply Exists.intro
  apply Exists.intro
  refine seq_nx h0 ?_
  refine seq_nx (ρ1 := eb q0 (some (.lst [.str "week", .str "two weeks", .str "half month", .str "month"])) (.tup [.int y, .int m, .int d]) r4 s n0 (some (.tup [.int y, .int m, .int d])) [] none none none none (List.replicate 19 none)) (μ1 := [.lst [.int a1, .int b1, .int c1]]) (by simp [st1, purs, pur, nb, List.replicate]) ?_
  refine seq_nx hdays ?_
  refine (hsp _).trans ?_
  refine seq_nx h8 ?_
  refine seq_nx (st9_s ⟨n00, n01⟩ k3) ?_
  refine seq_nx (st10_s ⟨n00, n01⟩ k3 k1) ?_
  refine seq_nx h11 ?_
  refine seq_nx (st12_s ⟨n00, n01⟩ kl) ?_
  rw [hab]
  refine (h1314 _).trans ?_
  refine seq_nx h15 ?_
  refine seq_nx (st16_s hv (by omega) hd28 hW hk) ?_
  refine seq_nx (st17_s hv (by omega) hn hd28 hW hk hmo) ?_
  refine seq_nx h18 ?_
  exact st19_s (p := S s r4 n0) ⟨n00, n01⟩ (by omega) (by omega) hd0
end K01

set_option linter.all false
set_option maxRecDepth 100000
set_option maxHeartbeats 4000000
namespace K01
open PySem Mi L2
def isTrue1 : Option (Out D) → Bool
  | some (.ok (.bl true) _) => true
  | _ => false
theorem plain_t : isTrue1 (M__law_plain [] []) = true := by decide +kernel
theorem plain_s : ∃ μ, M__law_plain [] [] = some (.ok (.bl true) μ) := by
  have h := plain_t
  generalize M__law_plain [] [] = r at h
  unfold isTrue1 at h
  split at h
  · exact ⟨_, rfl⟩
  · cases h
theorem math (ns : List Int) (_ : ns.length ≤ 63) : ∃ μ, M_law [.scr ns] [] = some (.ok (.bl true) μ) := by
  obtain ⟨a, b, c, hr⟩ := rounds_s ns
  obtain ⟨ρ', μ', hb⟩ := body_s (q0 := some (.scr ns)) (a := a) (b := b) (c := c)
  obtain ⟨μ2, hp⟩ := plain_s
  refine ⟨μ', ?_⟩
  unfold M_law
  rw [B_law_eq, fnS_s]
  have e0 : ([D.scr ns].map some ++ List.replicate (32 - [D.scr ns].length) none : En) = some (.scr ns) :: none :: List.replicate 30 none := rfl
  rw [e0]
  have e1 : cSet 1 (bLst (bCons (bCon (.str "week")) (bCons (bCon (.str "two weeks")) (bCons (bCon (.str "half month")) (bCons (bCon (.str "month")) (bNil)))))) (some (.scr ns) :: none :: List.replicate 30 none) [] = some (.nx (some (.scr ns) :: some (.lst [.str "week", .str "two weeks", .str "half month", .str "month"]) :: List.replicate 30 none) []) := by
    simp
  have e2 : cFor (bItems (bCallM M__law_rounds (bCons (bVar 0) (bCons (bCon (.int 1)) (bNil))))) (tgName 2) bodyC (some (.scr ns) :: some (.lst [.str "week", .str "two weeks", .str "half month", .str "month"]) :: List.replicate 30 none) [] = some (.nx ρ' μ') := by
    have e3 : bItems (bCallM M__law_rounds (bCons (bVar 0) (bCons (bCon (.int 1)) (bNil)))) (some (.scr ns) :: some (.lst [.str "week", .str "two weeks", .str "half month", .str "month"]) :: List.replicate 30 none) [] = some (.ok [.ref 0] [.lst [.int a, .int b, .int c]]) := by
      simp [rounds_eq, hr, lamfs, lamf]
    rw [cFor_s, e3]
    show (match bodyC (some (.scr ns) :: some (.lst [.str "week", .str "two weeks", .str "half month", .str "month"]) :: some (.ref 0) :: List.replicate 29 none) [.lst [.int a, .int b, .int c]] with
      | some (.nx ρ2 μ2) => fl (tgName 2) bodyC [] ρ2 μ2
      | some (.ct ρ2 μ2) => fl (tgName 2) bodyC [] ρ2 μ2
      | some (.bk ρ2 μ2) => some (.nx ρ2 μ2)
      | r => r) = _
    rw [hb]
    rfl
  have e4 : cRet (bCall0 M__law_plain) ρ' μ' = some (.rt (.bl true) μ') := by
    simp [hp, pur]
  rw [seq_nx e1 (seq_nx e2 e4)]
  simp [lamf]
end K01

set_option Elab.async false
set_option linter.all false
set_option maxRecDepth 100000
set_option maxHeartbeats 4000000
namespace K01
open PySem PySem.Spec PyProof.Rows L2 Mi LamX
def fa : List He.Fa := [.free "abs", .free "any", .free "enumerate", .free "int", .free "len", .free "list", .free "max", .free "min", .free "range", .free "str", .free "sum", .free "tuple", .glo "is_leap", .glo "days_in_month", .glo "day_of", .glo "date_of", .glo "week_day", .glo "told_date", .glo "two_figures", .glo "read_date", .glo "period_of", .glo "periods_in_year", .glo "work_days", .glo "paid_on", .glo "moved_months", .glo "whole_months", .glo "share_of_days", .glo "_law_dice", .glo "_law_roll", .glo "_law_rounds", .glo "_law_told", .glo "_law_long", .glo "_law_next", .glo "_law_number", .glo "_law_span", .glo "_law_moved", .glo "_law_plain", .glo "law", .int "LAST_YEAR" 2199, .glo "MONTH_DAYS", .glo "SORTS_OF_PERIOD", .glo "PeriodError", .exc "PeriodError", .exm "PeriodError" "PeriodError" true]
def fn : List He.DefD := [dDef "is_leap" s_is_leap, dDef "days_in_month" s_days_in_month, dDef "day_of" s_day_of, dDef "date_of" s_date_of, dDef "week_day" s_week_day, dDef "told_date" s_told_date, dDef "two_figures" s_two_figures, dDef "read_date" s_read_date, dDef "period_of" s_period_of, dDef "periods_in_year" s_periods_in_year, dDef "work_days" s_work_days, dDef "paid_on" s_paid_on, dDef "moved_months" s_moved_months, dDef "whole_months" s_whole_months, dDef "share_of_days" s_share_of_days, dDef "_law_dice" s__law_dice, dDef "_law_roll" s__law_roll, dDef "_law_rounds" s__law_rounds, dDef "_law_told" s__law_told, dDef "_law_long" s__law_long, dDef "_law_next" s__law_next, dDef "_law_number" s__law_number, dDef "_law_span" s__law_span, dDef "_law_moved" s__law_moved, dDef "_law_plain" s__law_plain, dDef "law" s_law]
def tq : TQ := [(("read_date", none), (("read_date.<locals>." : Str) ++ "<genexpr>")), (("work_days", none), (("work_days.<locals>." : Str) ++ "<genexpr>")), (("_law_plain", none), (("_law_plain.<locals>." : Str) ++ "<lambda>")), (("law", none), (("law.<locals>." : Str) ++ "<lambda>"))]
def tf : List He.Defn := [("read_date", none), ("work_days", none), ("_law_plain", none), ("law", none)]
def ex (K : PySem.W.Frag) : Bool := (He.tupB K "MONTH_DAYS" [(.int 31), (.int 28), (.int 31), (.int 30), (.int 31), (.int 30), (.int 31), (.int 31), (.int 30), (.int 31), (.int 30), (.int 31)]) && ((He.tupB K "SORTS_OF_PERIOD" [(.str "week"), (.str "two weeks"), (.str "half month"), (.str "month")]) && (tabsNd tq K))
theorem facts_of {P : Program} {w : World} {K : PySem.W.Frag} {mg : Str → Option Value} {h base : Heap} (c : He.SaysX fa fn [] (tq.map (·.1)) ex w h K) (KB : K.In base) (GB : base.Ns mainGlobals mg) (TB : ∀ p ∈ tq, TabB base mg (He.cT K p.1).1 (He.cT K p.1).2) : Facts (gOf P w K mg base (tabT tq K)) := by
  have e0 := c.more
  unfold ex at e0
  obtain ⟨t0, e1⟩ := He.ba e0
  obtain ⟨t1, e2⟩ := He.ba e1
  have nd := of_decide_eq_true e2
  exact ⟨He.free_ok KB GB (c.t.d.fact 0 (f := .free "abs") rfl),
    He.free_ok KB GB (c.t.d.fact 1 (f := .free "any") rfl),
    He.free_ok KB GB (c.t.d.fact 2 (f := .free "enumerate") rfl),
    He.free_ok KB GB (c.t.d.fact 3 (f := .free "int") rfl),
    He.free_ok KB GB (c.t.d.fact 4 (f := .free "len") rfl),
    He.free_ok KB GB (c.t.d.fact 5 (f := .free "list") rfl),
    He.free_ok KB GB (c.t.d.fact 6 (f := .free "max") rfl),
    He.free_ok KB GB (c.t.d.fact 7 (f := .free "min") rfl),
    He.free_ok KB GB (c.t.d.fact 8 (f := .free "range") rfl),
    He.free_ok KB GB (c.t.d.fact 9 (f := .free "str") rfl),
    He.free_ok KB GB (c.t.d.fact 10 (f := .free "sum") rfl),
    He.free_ok KB GB (c.t.d.fact 11 (f := .free "tuple") rfl),
    gc_int KB GB rfl rfl (c.t.d.fact 38 (f := .int "LAST_YEAR" 2199) rfl),
    gc_tup KB GB rfl rfl (c.t.d.fact 39 (f := .glo "MONTH_DAYS") rfl) t0 rfl,
    gc_tup KB GB rfl rfl (c.t.d.fact 40 (f := .glo "SORTS_OF_PERIOD") rfl) t1 rfl,
    ec_of KB GB rfl rfl rfl (c.t.d.fact 41 (f := .glo "PeriodError") rfl) (c.t.d.fact 42 (f := .exc "PeriodError") rfl),
    (by
    obtain ⟨fd, F⟩ := c.t.d.def_ 0 (d := dDef "is_leap" s_is_leap) rfl
    obtain ⟨cc, FC⟩ := funC_of (st := s_is_leap) (q := "is_leap") F
    exact ⟨_, cc, fd, FC, He.glo_ok KB GB (c.t.d.fact 12 (f := .glo "is_leap") rfl)⟩),
    (by
    obtain ⟨fd, F⟩ := c.t.d.def_ 1 (d := dDef "days_in_month" s_days_in_month) rfl
    obtain ⟨cc, FC⟩ := funC_of (st := s_days_in_month) (q := "days_in_month") F
    exact ⟨_, cc, fd, FC, He.glo_ok KB GB (c.t.d.fact 13 (f := .glo "days_in_month") rfl)⟩),
    (by
    obtain ⟨fd, F⟩ := c.t.d.def_ 2 (d := dDef "day_of" s_day_of) rfl
    obtain ⟨cc, FC⟩ := funC_of (st := s_day_of) (q := "day_of") F
    exact ⟨_, cc, fd, FC, He.glo_ok KB GB (c.t.d.fact 14 (f := .glo "day_of") rfl)⟩),
    (by
    obtain ⟨fd, F⟩ := c.t.d.def_ 3 (d := dDef "date_of" s_date_of) rfl
    obtain ⟨cc, FC⟩ := funC_of (st := s_date_of) (q := "date_of") F
    exact ⟨_, cc, fd, FC, He.glo_ok KB GB (c.t.d.fact 15 (f := .glo "date_of") rfl)⟩),
    (by
    obtain ⟨fd, F⟩ := c.t.d.def_ 4 (d := dDef "week_day" s_week_day) rfl
    obtain ⟨cc, FC⟩ := funC_of (st := s_week_day) (q := "week_day") F
    exact ⟨_, cc, fd, FC, He.glo_ok KB GB (c.t.d.fact 16 (f := .glo "week_day") rfl)⟩),
    (by
    obtain ⟨fd, F⟩ := c.t.d.def_ 6 (d := dDef "two_figures" s_two_figures) rfl
    obtain ⟨cc, FC⟩ := funC_of (st := s_two_figures) (q := "two_figures") F
    exact ⟨_, cc, fd, FC, He.glo_ok KB GB (c.t.d.fact 18 (f := .glo "two_figures") rfl)⟩),
    (by
    obtain ⟨fd, F⟩ := c.t.d.def_ 5 (d := dDef "told_date" s_told_date) rfl
    obtain ⟨cc, FC⟩ := funC_of (st := s_told_date) (q := "told_date") F
    exact ⟨_, cc, fd, FC, He.glo_ok KB GB (c.t.d.fact 17 (f := .glo "told_date") rfl)⟩),
    (by
    obtain ⟨fd, F⟩ := c.t.d.def_ 7 (d := dDef "read_date" s_read_date) rfl
    obtain ⟨cc, FC⟩ := funC_of (st := s_read_date) (q := "read_date") F
    have ec := FC.code rfl
    subst ec
    have hm : (tq : List (He.Defn × Str))[0]? = some ((("read_date" : Str), (none : Option Str)), (("read_date.<locals>." : Str) ++ "<genexpr>")) := rfl
    have hm := List.mem_of_getElem? hm
    exact ⟨_, _, fd, FC, He.glo_ok KB GB (c.t.d.fact 19 (f := .glo "read_date") rfl), _, TB _ hm, List.mem_map.mpr ⟨_, hm, rfl⟩, tab_uniq nd hm⟩),
    (by
    obtain ⟨fd, F⟩ := c.t.d.def_ 8 (d := dDef "period_of" s_period_of) rfl
    obtain ⟨cc, FC⟩ := funC_of (st := s_period_of) (q := "period_of") F
    exact ⟨_, cc, fd, FC, He.glo_ok KB GB (c.t.d.fact 20 (f := .glo "period_of") rfl)⟩),
    (by
    obtain ⟨fd, F⟩ := c.t.d.def_ 9 (d := dDef "periods_in_year" s_periods_in_year) rfl
    obtain ⟨cc, FC⟩ := funC_of (st := s_periods_in_year) (q := "periods_in_year") F
    exact ⟨_, cc, fd, FC, He.glo_ok KB GB (c.t.d.fact 21 (f := .glo "periods_in_year") rfl)⟩),
    (by
    obtain ⟨fd, F⟩ := c.t.d.def_ 10 (d := dDef "work_days" s_work_days) rfl
    obtain ⟨cc, FC⟩ := funC_of (st := s_work_days) (q := "work_days") F
    have ec := FC.code rfl
    subst ec
    have hm : (tq : List (He.Defn × Str))[1]? = some ((("work_days" : Str), (none : Option Str)), (("work_days.<locals>." : Str) ++ "<genexpr>")) := rfl
    have hm := List.mem_of_getElem? hm
    exact ⟨_, _, fd, FC, He.glo_ok KB GB (c.t.d.fact 22 (f := .glo "work_days") rfl), _, TB _ hm, List.mem_map.mpr ⟨_, hm, rfl⟩, tab_uniq nd hm⟩),
    (by
    obtain ⟨fd, F⟩ := c.t.d.def_ 11 (d := dDef "paid_on" s_paid_on) rfl
    obtain ⟨cc, FC⟩ := funC_of (st := s_paid_on) (q := "paid_on") F
    exact ⟨_, cc, fd, FC, He.glo_ok KB GB (c.t.d.fact 23 (f := .glo "paid_on") rfl)⟩),
    (by
    obtain ⟨fd, F⟩ := c.t.d.def_ 12 (d := dDef "moved_months" s_moved_months) rfl
    obtain ⟨cc, FC⟩ := funC_of (st := s_moved_months) (q := "moved_months") F
    exact ⟨_, cc, fd, FC, He.glo_ok KB GB (c.t.d.fact 24 (f := .glo "moved_months") rfl)⟩),
    (by
    obtain ⟨fd, F⟩ := c.t.d.def_ 13 (d := dDef "whole_months" s_whole_months) rfl
    obtain ⟨cc, FC⟩ := funC_of (st := s_whole_months) (q := "whole_months") F
    exact ⟨_, cc, fd, FC, He.glo_ok KB GB (c.t.d.fact 25 (f := .glo "whole_months") rfl)⟩),
    (by
    obtain ⟨fd, F⟩ := c.t.d.def_ 14 (d := dDef "share_of_days" s_share_of_days) rfl
    obtain ⟨cc, FC⟩ := funC_of (st := s_share_of_days) (q := "share_of_days") F
    exact ⟨_, cc, fd, FC, He.glo_ok KB GB (c.t.d.fact 26 (f := .glo "share_of_days") rfl)⟩),
    (by
    obtain ⟨fd, F⟩ := c.t.d.def_ 15 (d := dDef "_law_dice" s__law_dice) rfl
    obtain ⟨cc, FC⟩ := funC_of (st := s__law_dice) (q := "_law_dice") F
    exact ⟨_, cc, fd, FC, He.glo_ok KB GB (c.t.d.fact 27 (f := .glo "_law_dice") rfl)⟩),
    (by
    obtain ⟨fd, F⟩ := c.t.d.def_ 16 (d := dDef "_law_roll" s__law_roll) rfl
    obtain ⟨cc, FC⟩ := funC_of (st := s__law_roll) (q := "_law_roll") F
    exact ⟨_, cc, fd, FC, He.glo_ok KB GB (c.t.d.fact 28 (f := .glo "_law_roll") rfl)⟩),
    (by
    obtain ⟨fd, F⟩ := c.t.d.def_ 17 (d := dDef "_law_rounds" s__law_rounds) rfl
    obtain ⟨cc, FC⟩ := funC_of (st := s__law_rounds) (q := "_law_rounds") F
    exact ⟨_, cc, fd, FC, He.glo_ok KB GB (c.t.d.fact 29 (f := .glo "_law_rounds") rfl)⟩),
    (by
    obtain ⟨fd, F⟩ := c.t.d.def_ 19 (d := dDef "_law_long" s__law_long) rfl
    obtain ⟨cc, FC⟩ := funC_of (st := s__law_long) (q := "_law_long") F
    exact ⟨_, cc, fd, FC, He.glo_ok KB GB (c.t.d.fact 31 (f := .glo "_law_long") rfl)⟩),
    (by
    obtain ⟨fd, F⟩ := c.t.d.def_ 20 (d := dDef "_law_next" s__law_next) rfl
    obtain ⟨cc, FC⟩ := funC_of (st := s__law_next) (q := "_law_next") F
    exact ⟨_, cc, fd, FC, He.glo_ok KB GB (c.t.d.fact 32 (f := .glo "_law_next") rfl)⟩),
    (by
    obtain ⟨fd, F⟩ := c.t.d.def_ 21 (d := dDef "_law_number" s__law_number) rfl
    obtain ⟨cc, FC⟩ := funC_of (st := s__law_number) (q := "_law_number") F
    exact ⟨_, cc, fd, FC, He.glo_ok KB GB (c.t.d.fact 33 (f := .glo "_law_number") rfl)⟩),
    (by
    obtain ⟨fd, F⟩ := c.t.d.def_ 22 (d := dDef "_law_span" s__law_span) rfl
    obtain ⟨cc, FC⟩ := funC_of (st := s__law_span) (q := "_law_span") F
    exact ⟨_, cc, fd, FC, He.glo_ok KB GB (c.t.d.fact 34 (f := .glo "_law_span") rfl)⟩),
    (by
    obtain ⟨fd, F⟩ := c.t.d.def_ 23 (d := dDef "_law_moved" s__law_moved) rfl
    obtain ⟨cc, FC⟩ := funC_of (st := s__law_moved) (q := "_law_moved") F
    exact ⟨_, cc, fd, FC, He.glo_ok KB GB (c.t.d.fact 35 (f := .glo "_law_moved") rfl)⟩),
    (by
    obtain ⟨fd, F⟩ := c.t.d.def_ 24 (d := dDef "_law_plain" s__law_plain) rfl
    obtain ⟨cc, FC⟩ := funC_of (st := s__law_plain) (q := "_law_plain") F
    have ec := FC.code rfl
    subst ec
    have hm : (tq : List (He.Defn × Str))[2]? = some ((("_law_plain" : Str), (none : Option Str)), (("_law_plain.<locals>." : Str) ++ "<lambda>")) := rfl
    have hm := List.mem_of_getElem? hm
    exact ⟨_, _, fd, FC, He.glo_ok KB GB (c.t.d.fact 36 (f := .glo "_law_plain") rfl), _, TB _ hm, List.mem_map.mpr ⟨_, hm, rfl⟩, tab_uniq nd hm⟩),
    (by
    obtain ⟨fd, F⟩ := c.t.d.def_ 25 (d := dDef "law" s_law) rfl
    obtain ⟨cc, FC⟩ := funC_of (st := s_law) (q := "law") F
    have ec := FC.code rfl
    subst ec
    have hm : (tq : List (He.Defn × Str))[3]? = some ((("law" : Str), (none : Option Str)), (("law.<locals>." : Str) ++ "<lambda>")) := rfl
    have hm := List.mem_of_getElem? hm
    exact ⟨_, _, fd, FC, He.glo_ok KB GB (c.t.d.fact 37 (f := .glo "law") rfl), _, TB _ hm, List.mem_map.mpr ⟨_, hm, rfl⟩, tab_uniq nd hm⟩),
    (by
    obtain ⟨fd, F⟩ := c.t.d.def_ 18 (d := dDef "_law_told" s__law_told) rfl
    obtain ⟨cc, FC⟩ := funC_of (st := s__law_told) (q := "_law_told") F
    exact ⟨_, cc, fd, ⟨FC, He.glo_ok KB GB (c.t.d.fact 30 (f := .glo "_law_told") rfl), FC.binds fun _ _ _ _ _ _ us hl => match us, hl with | [_], _ => rfl, ⟨rfl, rfl, rfl, by decide +kernel, rfl, by decide +kernel, by decide +kernel⟩, rfl, Or.inl rfl, rfl, rfl, by decide, by decide, by decide, He.glo_ok KB GB (c.t.d.fact 41 (f := .glo "PeriodError") rfl), He.exm_ok (c.t.d.fact 43 (f := .exm "PeriodError" "PeriodError" true) rfl)⟩⟩)⟩
abbrev R : PySem.W.OpenRow := PySem.W.OpenLaw.row PySem.Challenge.rw_paystack_k01_days_and_spans_paid
abbrev hk : PySem.W.Hook := He.hookX 5 fa fn [] (tq.map (·.1)) ex
def obh (s : PySem.W.SharedT) : He.AlX := He.obsX 5 fa fn [] (tq.map (·.1)) ex (HandSHeadRun.getT s)
theorem obh_eq (s : PySem.W.SharedT) : obh s = hk.obs s.abs := He.obsX_eq (HandSHeadRun.getT_eq s)
def loose0 : List PySem.Str := ["PayFault", "PeriodError", "MONTH_DAYS", "SORTS_OF_PERIOD", "LAST_YEAR", "is_leap", "days_in_month", "day_of", "date_of", "week_day", "told_date", "two_figures", "read_date", "period_of", "periods_in_year", "work_days", "paid_on", "moved_months", "whole_months", "share_of_days", "_law_dice", "_law_roll", "_law_rounds", "_law_told", "_law_long", "_law_next", "_law_number", "_law_span", "_law_moved", "_law_plain"]
def loose : List PySem.Str := loose0
theorem run (w : World) : HandSHeadRun.RunEq R (PySem.W.view R.prog [33]) hk obh 3000 loose w := by
  intro os
  kernel_rfl
end K01
open PySem PySem.W PySem.Calls PyProof.Rows
theorem PySem.Challenge.cw_paystack_k01_days_and_spans_paid_holds_of (math : ∀ ns : List Int, ns.length ≤ 63 → ∃ μ, K01.M_law [.scr ns] [] = some (.ok (.bl true) μ)) : PySem.Challenge.rw_paystack_k01_days_and_spans_paid.Holds := by
  w_on; o_law
  refine HandSHeadRun.head_any (r := OpenLaw.row PySem.Challenge.rw_paystack_k01_days_and_spans_paid) (q := view (OpenLaw.row PySem.Challenge.rw_paystack_k01_days_and_spans_paid).prog [33]) (H := K01.hk) (ob := K01.obh) (M := 3000) (loose := K01.loose) (d := HandSHeadRun.topDef (OpenLaw.row PySem.Challenge.rw_paystack_k01_days_and_spans_paid).prog 33) (kwd := []) K01.obh_eq
    (by kernel_rfl) (fun s => by kernel_rfl) K01.run (by kernel_rfl) (by kernel_rfl) (by kernel_rfl) (by rfl) (by first | assumption | decide +kernel) (by decide +kernel) ⟨rfl, rfl, rfl, rfl, rfl, by decide +kernel⟩ ?hw ?hc
  case hw => w_witness2
  case hc =>
    exact Mi.law_end (l := PySem.Challenge.rw_paystack_k01_days_and_spans_paid) (n := 63) (k := 11) (x := "script") (st := K01.s_law) rfl (by decide) (by kernel_rfl) ⟨rfl, by decide, by decide⟩ (by kernel_rfl) (List.mem_of_getElem? (i := 25) rfl) (List.mem_of_getElem? (i := 37) rfl)
      (fun _ _ _ _ _ _ us hl => match us, hl with | [_], _ => rfl) (fun w K mg h base c KB GB TB => K01.ok_law (K01.facts_of c KB GB TB)) math

theorem PySem.Challenge.cw_paystack_k01_days_and_spans_paid_holds : PySem.Challenge.rw_paystack_k01_days_and_spans_paid.Holds := by
  exact PySem.Challenge.cw_paystack_k01_days_and_spans_paid_holds_of K01.math
