import PyProof.Rows.All
import Wide.All
import OpenK.AllK
import Wide.FinOn
import HandS.ForMost
import HandS.Wide
import HandS.Star
import HandS.TupAny
import HandS.TupMul
import HandS.Deep
import HandS.Conv
import HandS.IsInst
import HandS.Style
import HandS.TupLe
import HandS.SetFor
import HandS.Defaults
import HandS.Zip
import HandS.Iter
import KE.GoesNew
import KE.SortData
import KE.DataMinMax
import HandS.SortInts
import KE.KDictZip
import PyProof.ListNew
import HandS.Keys
import KE.KStateDown
import Lean
import HandS.Base
import HandS.Call
import HandS.Ends
import HandS.More
import HandS.Words
import HandS.WordsExc
import HandS.Head0
import HandS.Head1
import HandS.Head2
import HandS.HeadEnd
import HandS.HeadHook1
import HandS.HeadHook2
import PySem.Challenge.RW_pouredastold_k25_whole_sixty_seasons_fil
set_option Elab.async false
set_option linter.all false
set_option maxRecDepth 100000
/-! S0: values, what stands for them in the abstract heap, environments. Own work over the hand layer. -/
namespace Sm
open PySem PySem.Spec PyProof.Rows L2

/-- pure data -/
inductive PV where
  | non | bl (b : Bool) | int (i : Int) | str (x : Str) | tup (xs : List PV)
/-- what a name may hold: pure data; an own list or dict; a lent one (read only); a frozen list; a list or tuple of such -/
inductive DV where
  | p (x : PV)
  | lst (xs : List PV)
  | ro (xs : List PV)
  | fz (xs : List PV)
  | dic (kvs : List (PV × PV))
  | rod (kvs : List (PV × PV))
  | ml (ds : List DV)
  | mr (ds : List DV)
  | mt (ds : List DV)
abbrev En := List (Option DV)
abbrev Sg := L2.St

/-- a tuple at a: tracked, or of the written part -/
def TupAt (K : PySem.W.Frag) (H : Hp) (a : Addr) (xs : List V) : Prop :=
  H a = some (.tup xs) ∨
    ∃ (o : Obj) (its : Array Value) (n : Nat), K.lookup a = some o ∧ o.cls = .type "tuple" ∧ o.data = .seq its n ∧ its.size ≤ sizeLine ∧ Vals xs its.toList
theorem TupAt.seq {K : PySem.W.Frag} {H : Hp} {a : Addr} {xs : List V} (h : TupAt K H a xs) : SqT K H a xs := h.elim (fun h => .inl (.inl h)) .inr
def TupKeep (H H' : Hp) : Prop := ∀ b xs, H b = some (.tup xs) → H' b = some (.tup xs)
theorem TupAt.ext {K : PySem.W.Frag} {H H' : Hp} {a : Addr} {xs : List V} (h : TupAt K H a xs) (k : TupKeep H H') : TupAt K H' a xs := h.imp (k _ _) id

mutual
inductive RP (K : PySem.W.Frag) (H : Hp) : V → PV → Prop
  | non : RP K H .non .non
  | bl (b : Bool) : RP K H (.bl b) (.bl b)
  | int (i : Int) : RP K H (.int i) (.int i)
  | str (x : Str) : RP K H (.str x) (.str x)
  | tup {a : Addr} {vs : List V} {xs : List PV} : TupAt K H a vs → RPs K H vs xs → RP K H (.ref a) (.tup xs)
inductive RPs (K : PySem.W.Frag) (H : Hp) : List V → List PV → Prop
  | nil : RPs K H [] []
  | cons {v : V} {vs : List V} {x : PV} {xs : List PV} : RP K H v x → RPs K H vs xs → RPs K H (v :: vs) (x :: xs)
end
mutual
theorem RP.ext {K : PySem.W.Frag} {H H' : Hp} (k : TupKeep H H') : ∀ {v : V} {x : PV}, RP K H v x → RP K H' v x
  | _, _, .non => .non
  | _, _, .bl b => .bl b
  | _, _, .int i => .int i
  | _, _, .str x => .str x
  | _, _, .tup t r => .tup (t.ext k) (RPs.ext k r)
theorem RPs.ext {K : PySem.W.Frag} {H H' : Hp} (k : TupKeep H H') : ∀ {vs : List V} {xs : List PV}, RPs K H vs xs → RPs K H' vs xs
  | _, _, .nil => .nil
  | _, _, .cons a b => .cons (RP.ext k a) (RPs.ext k b)
end
section
variable {K : PySem.W.Frag} {H H' : Hp}
theorem RPs.length {vs : List V} {xs : List PV} (h : RPs K H vs xs) : vs.length = xs.length := by
  induction xs generalizing vs with
  | nil => cases h; rfl
  | cons x xs ih => cases h with | cons a b => simp [ih b]
theorem RPs.get {vs : List V} {xs : List PV} (h : RPs K H vs xs) {i : Nat} {x : PV} (e : xs[i]? = some x) : ∃ v, vs[i]? = some v ∧ RP K H v x := by
  induction xs generalizing vs i with
  | nil => simp at e
  | cons y ys ih =>
    cases h with
    | cons a b =>
      cases i with
      | zero => simp at e; subst e; exact ⟨_, rfl, a⟩
      | succ i => simpa using ih b (by simpa using e)
theorem RPs.get' {vs : List V} {xs : List PV} (h : RPs K H vs xs) {i : Nat} {v : V} (e : vs[i]? = some v) : ∃ x, xs[i]? = some x ∧ RP K H v x := by
  induction xs generalizing vs i with
  | nil => cases h; simp at e
  | cons y ys ih =>
    cases h with
    | cons a b =>
      cases i with
      | zero => simp at e; subst e; exact ⟨_, rfl, a⟩
      | succ i => simpa using ih b (by simpa using e)
theorem RPs.append {vs ws : List V} {xs ys : List PV} (h : RPs K H vs xs) (g : RPs K H ws ys) : RPs K H (vs ++ ws) (xs ++ ys) := by
  induction xs generalizing vs with
  | nil => cases h; exact g
  | cons x xs ih => cases h with | cons a b => exact .cons a (ih b)
theorem RPs.take {vs : List V} {xs : List PV} (h : RPs K H vs xs) : ∀ n, RPs K H (vs.take n) (xs.take n) := by
  induction xs generalizing vs with
  | nil => intro n; cases h; simp; exact .nil
  | cons x xs ih =>
    intro n
    cases h with
    | cons a b =>
      cases n with
      | zero => exact .nil
      | succ n => exact .cons a (ih b n)
theorem RPs.drop {vs : List V} {xs : List PV} (h : RPs K H vs xs) : ∀ n, RPs K H (vs.drop n) (xs.drop n) := by
  induction xs generalizing vs with
  | nil => intro n; cases h; simp; exact .nil
  | cons x xs ih =>
    intro n
    cases h with
    | cons a b =>
      cases n with
      | zero => exact .cons a b
      | succ n => exact ih b n
theorem RPs.set {vs : List V} {xs : List PV} (h : RPs K H vs xs) {v : V} {x : PV} (r : RP K H v x) : ∀ n, RPs K H (vs.set n v) (xs.set n x) := by
  induction xs generalizing vs with
  | nil => intro n; cases h; simp; exact .nil
  | cons y xs ih =>
    intro n
    cases h with
    | cons a b =>
      cases n with
      | zero => exact .cons r b
      | succ n => exact .cons a (ih b n)
theorem RPs.reverse {vs : List V} {xs : List PV} (h : RPs K H vs xs) : RPs K H vs.reverse xs.reverse := by
  induction xs generalizing vs with
  | nil => cases h; exact .nil
  | cons y xs ih =>
    cases h with
    | cons a b =>
      rw [List.reverse_cons, List.reverse_cons]
      exact (ih b).append (.cons a .nil)
theorem RPs.eraseIdx {vs : List V} {xs : List PV} (h : RPs K H vs xs) : ∀ n, RPs K H (vs.eraseIdx n) (xs.eraseIdx n) := by
  induction xs generalizing vs with
  | nil => intro n; cases h; exact .nil
  | cons y xs ih =>
    intro n
    cases h with
    | cons a b =>
      cases n with
      | zero => exact b
      | succ n => exact .cons a (ih b n)
theorem RPs.dropLast {vs : List V} {xs : List PV} (h : RPs K H vs xs) : RPs K H vs.dropLast xs.dropLast := by
  rw [List.dropLast_eq_take, List.dropLast_eq_take, h.length]
  exact h.take _
theorem RPs.int : ∀ (ns : List Int), RPs K H (ns.map V.int) (ns.map PV.int)
  | [] => .nil
  | n :: ns => .cons (.int n) (RPs.int ns)
theorem RPs.of_int : ∀ {ns : List Int} {vs : List V}, RPs K H vs (ns.map PV.int) → vs = ns.map V.int
  | [], _, h => by cases h; rfl
  | n :: ns, _, h => by
    cases h with
    | cons a b => cases a; rw [RPs.of_int b]; rfl
theorem RPs.of_bl : ∀ {ns : List Bool} {vs : List V}, RPs K H vs (ns.map PV.bl) → vs = ns.map V.bl
  | [], _, h => by cases h; rfl
  | n :: ns, _, h => by
    cases h with
    | cons a b => cases a; rw [RPs.of_bl b]; rfl
theorem RPs.of_str : ∀ {ns : List Str} {vs : List V}, RPs K H vs (ns.map PV.str) → vs = ns.map V.str
  | [], _, h => by cases h; rfl
  | n :: ns, _, h => by
    cases h with
    | cons a b => cases a; rw [RPs.of_str b]; rfl
end

/-! ### data for the kit's own == -/
mutual
def PV.toD : PV → PyData
  | .non => .none
  | .bl b => .bool b
  | .int i => .int i
  | .str x => .str x
  | .tup xs => .tuple (PV.toDs xs)
def PV.toDs : List PV → List PyData
  | [] => []
  | x :: xs => PV.toD x :: PV.toDs xs
end
mutual
theorem RP.dp {K : PySem.W.Frag} {H : Hp} : ∀ {v : V} {x : PV}, RP K H v x → Dp K H v x.toD
  | _, _, .non => by simp only [PV.toD]; exact .non
  | _, _, .bl b => by simp only [PV.toD]; exact .bl b
  | _, _, .int i => by simp only [PV.toD]; exact .int i
  | _, _, .str x => by simp only [PV.toD]; exact .str x
  | _, _, .tup t r => by simp only [PV.toD]; exact .tup t.seq (RPs.dp r)
theorem RPs.dp {K : PySem.W.Frag} {H : Hp} : ∀ {vs : List V} {xs : List PV}, RPs K H vs xs → DpAll K H vs (PV.toDs xs)
  | _, _, .nil => by simp only [PV.toDs]; exact .nil
  | _, _, .cons a b => by simp only [PV.toDs]; exact .cons (RP.dp a) (RPs.dp b)
end

/-! ### dicts -/
def keyPV : Key → PV
  | .inl i => .int i
  | .inr x => .str x
def KVs (K : PySem.W.Frag) (H : Hp) : List (Key × V) → List (PV × PV) → Prop := Paired fun p q => q.1 = keyPV p.1 ∧ RP K H p.2 q.2
def KTs (K : PySem.W.Frag) (H : Hp) : List (List Key × V) → List (PV × PV) → Prop := Paired fun p q => q.1 = .tup (p.1.map keyPV) ∧ RP K H p.2 q.2
theorem KVs.ext {K : PySem.W.Frag} {H H' : Hp} (k : TupKeep H H') {ks : List (Key × V)} {kvs : List (PV × PV)} (h : KVs K H ks kvs) : KVs K H' ks kvs := Paired.mapP h fun _ _ q => ⟨q.1, q.2.ext k⟩
theorem KTs.ext {K : PySem.W.Frag} {H H' : Hp} (k : TupKeep H H') {ks : List (List Key × V)} {kvs : List (PV × PV)} (h : KTs K H ks kvs) : KTs K H' ks kvs := Paired.mapP h fun _ _ q => ⟨q.1, q.2.ext k⟩
/-- a dict's content, whatever its keys -/
def DicO (K : PySem.W.Frag) (H : Hp) (o : HO) (kvs : List (PV × PV)) : Prop := (∃ ks, o = .dK ks ∧ KVs K H ks kvs) ∨ ∃ ks, o = .dT ks ∧ KTs K H ks kvs
theorem DicO.ext {K : PySem.W.Frag} {H H' : Hp} (k : TupKeep H H') {o : HO} {kvs : List (PV × PV)} (h : DicO K H o kvs) : DicO K H' o kvs :=
  h.imp (fun ⟨ks, e, q⟩ => ⟨ks, e, q.ext k⟩) fun ⟨ks, e, q⟩ => ⟨ks, e, q.ext k⟩

/-! ### what stands for a value: F the own places, B the lent ones -/
abbrev Fp := List Addr
def Disj (F G : Fp) : Prop := ∀ a, a ∈ F → a ∉ G
def Mub : HO → Prop
  | .lst _ => True
  | .dK _ => True
  | .dT _ => True
  | _ => False
/-- a list of the module -/
def KL (K : PySem.W.Frag) (a : Addr) (xs : List V) : Prop := ∃ (o : Obj) (its : Array Value) (n : Nat), K.lookup a = some o ∧ o.cls = .type "list" ∧ o.dict = none ∧ o.data = .seq its n ∧ its.size ≤ sizeLine ∧ Vals xs its.toList
theorem KL.seq {K : PySem.W.Frag} {a : Addr} {xs : List V} (h : KL K a xs) (H : Hp) : SqL K H a xs := .inr h
mutual
inductive Rp (K : PySem.W.Frag) (H : Hp) : V → DV → Fp → Fp → Prop
  | p {v : V} {x : PV} : RP K H v x → Rp K H v (.p x) [] []
  | lst {a : Addr} {vs : List V} {xs : List PV} : H a = some (.lst vs) → RPs K H vs xs → Rp K H (.ref a) (.lst xs) [a] []
  | ro {a : Addr} {vs : List V} {xs : List PV} : H a = some (.lst vs) → RPs K H vs xs → Rp K H (.ref a) (.ro xs) [] [a]
  | fz {a : Addr} {o : Obj} {vs : List V} {xs : List PV} : H a = some (.frz o (.lst vs)) → RPs K H vs xs → Rp K H (.ref a) (.fz xs) [] [a]
  | fk {a : Addr} {vs : List V} {xs : List PV} : KL K a vs → RPs K H vs xs → Rp K H (.ref a) (.fz xs) [] []
  | dic {a : Addr} {o : HO} {kvs : List (PV × PV)} : H a = some o → DicO K H o kvs → Rp K H (.ref a) (.dic kvs) [a] []
  | rod {a : Addr} {o u : HO} {kvs : List (PV × PV)} : H a = some o → Rd H a u → DicO K H u kvs → Rp K H (.ref a) (.rod kvs) [] [a]
  | ml {a : Addr} {vs : List V} {ds : List DV} {F B : Fp} : H a = some (.lst vs) → RpAll K H vs ds F B → a ∉ F → a ∉ B → Rp K H (.ref a) (.ml ds) (a :: F) B
  | mr {a : Addr} {vs : List V} {ds : List DV} {B : Fp} : H a = some (.lst vs) → RpAll K H vs ds [] B → Rp K H (.ref a) (.mr ds) [] (a :: B)
  | mt {a : Addr} {vs : List V} {ds : List DV} {F B : Fp} : TupAt K H a vs → RpAll K H vs ds F B → Rp K H (.ref a) (.mt ds) F B
inductive RpAll (K : PySem.W.Frag) (H : Hp) : List V → List DV → Fp → Fp → Prop
  | nil : RpAll K H [] [] [] []
  | cons {v : V} {vs : List V} {d : DV} {ds : List DV} {F G B C : Fp} : Rp K H v d F B → RpAll K H vs ds G C → Disj F G → RpAll K H (v :: vs) (d :: ds) (F ++ G) (B ++ C)
end
mutual
theorem Rp.ext {K : PySem.W.Frag} {H H' : Hp} (k : TupKeep H H') : ∀ {v : V} {d : DV} {F B : Fp}, Rp K H v d F B → (∀ a ∈ F, H' a = H a) → (∀ a ∈ B, H' a = H a) → Rp K H' v d F B
  | _, _, _, _, .p h, _, _ => .p (h.ext k)
  | _, _, _, _, .lst e h, f, _ => .lst ((f _ (by simp)).trans e) (h.ext k)
  | _, _, _, _, .ro e h, _, g => .ro ((g _ (by simp)).trans e) (h.ext k)
  | _, _, _, _, .fz e h, _, g => .fz ((g _ (by simp)).trans e) (h.ext k)
  | _, _, _, _, .fk e h, _, _ => .fk e (h.ext k)
  | _, _, _, _, .dic e h, f, _ => .dic ((f _ (by simp)).trans e) (h.ext k)
  | _, _, _, _, .rod e r h, _, g => .rod ((g _ (by simp)).trans e) (r.imp (fun z => (g _ (by simp)).trans z) fun ⟨o, z⟩ => ⟨o, (g _ (by simp)).trans z⟩) (h.ext k)
  | _, _, _, _, .ml e h n m, f, g => .ml ((f _ (by simp)).trans e) (RpAll.ext k h (fun a q => f a (List.mem_cons_of_mem _ q)) g) n m
  | _, _, _, _, .mr e h, f, g => .mr ((g _ (by simp)).trans e) (RpAll.ext k h f fun a q => g a (List.mem_cons_of_mem _ q))
  | _, _, _, _, .mt t h, f, g => .mt (t.ext k) (RpAll.ext k h f g)
theorem RpAll.ext {K : PySem.W.Frag} {H H' : Hp} (k : TupKeep H H') : ∀ {vs : List V} {ds : List DV} {F B : Fp}, RpAll K H vs ds F B → (∀ a ∈ F, H' a = H a) → (∀ a ∈ B, H' a = H a) → RpAll K H' vs ds F B
  | _, _, _, _, .nil, _, _ => .nil
  | _, _, _, _, .cons h r d, f, g => .cons (Rp.ext k h (fun a q => f a (List.mem_append_left _ q)) fun a q => g a (List.mem_append_left _ q)) (RpAll.ext k r (fun a q => f a (List.mem_append_right _ q)) fun a q => g a (List.mem_append_right _ q)) d
end
mutual
theorem Rp.own {K : PySem.W.Frag} {H : Hp} : ∀ {v : V} {d : DV} {F B : Fp}, Rp K H v d F B → ∀ a ∈ F, ∃ o, H a = some o ∧ Mub o
  | _, _, _, _, .p _, a, q => nomatch q
  | _, _, _, _, .lst e _, a, q => by simp at q; subst q; exact ⟨_, e, trivial⟩
  | _, _, _, _, .ro _ _, a, q => nomatch q
  | _, _, _, _, .fz _ _, a, q => nomatch q
  | _, _, _, _, .fk _ _, a, q => nomatch q
  | _, _, _, _, .dic e h, a, q => by
    simp at q; subst q
    rcases h with ⟨ks, rfl, _⟩ | ⟨ks, rfl, _⟩ <;> exact ⟨_, e, trivial⟩
  | _, _, _, _, .rod _ _ _, a, q => nomatch q
  | _, _, _, _, .ml e h n m, a, q => by
    rcases List.mem_cons.mp q with rfl | q
    · exact ⟨_, e, trivial⟩
    · exact RpAll.own h a q
  | _, _, _, _, .mr _ _, a, q => nomatch q
  | _, _, _, _, .mt t h, a, q => RpAll.own h a q
theorem RpAll.own {K : PySem.W.Frag} {H : Hp} : ∀ {vs : List V} {ds : List DV} {F B : Fp}, RpAll K H vs ds F B → ∀ a ∈ F, ∃ o, H a = some o ∧ Mub o
  | _, _, _, _, .nil, a, q => nomatch q
  | _, _, _, _, .cons h r d, a, q => (List.mem_append.mp q).elim (Rp.own h a) (RpAll.own r a)
end
mutual
theorem Rp.lent {K : PySem.W.Frag} {H : Hp} : ∀ {v : V} {d : DV} {F B : Fp}, Rp K H v d F B → ∀ a ∈ B, ∃ o, H a = some o
  | _, _, _, _, .p _, a, q => nomatch q
  | _, _, _, _, .lst _ _, a, q => nomatch q
  | _, _, _, _, .ro e _, a, q => by simp at q; subst q; exact ⟨_, e⟩
  | _, _, _, _, .fz e _, a, q => by simp at q; subst q; exact ⟨_, e⟩
  | _, _, _, _, .fk _ _, a, q => nomatch q
  | _, _, _, _, .dic e h, a, q => nomatch q
  | _, _, _, _, .rod e _ _, a, q => by simp at q; subst q; exact ⟨_, e⟩
  | _, _, _, _, .ml e h n m, a, q => RpAll.lent h a q
  | _, _, _, _, .mr e h, a, q => by
    rcases List.mem_cons.mp q with rfl | q
    · exact ⟨_, e⟩
    · exact RpAll.lent h a q
  | _, _, _, _, .mt t h, a, q => RpAll.lent h a q
theorem RpAll.lent {K : PySem.W.Frag} {H : Hp} : ∀ {vs : List V} {ds : List DV} {F B : Fp}, RpAll K H vs ds F B → ∀ a ∈ B, ∃ o, H a = some o
  | _, _, _, _, .nil, a, q => nomatch q
  | _, _, _, _, .cons h r d, a, q => (List.mem_append.mp q).elim (Rp.lent h a) (RpAll.lent r a)
end
/-! lent: what a reader sees -/
mutual
def DV.lend : DV → DV
  | .p x => .p x
  | .lst xs => .ro xs
  | .ro xs => .ro xs
  | .fz xs => .fz xs
  | .dic kvs => .rod kvs
  | .rod kvs => .rod kvs
  | .ml ds => .mr (DV.lends ds)
  | .mr ds => .mr (DV.lends ds)
  | .mt ds => .mt (DV.lends ds)
def DV.lends : List DV → List DV
  | [] => []
  | d :: ds => d.lend :: DV.lends ds
end
mutual
theorem Rp.lend {K : PySem.W.Frag} {H : Hp} : ∀ {v : V} {d : DV} {F B : Fp}, Rp K H v d F B → ∃ C, Rp K H v d.lend [] C ∧ ∀ a ∈ C, a ∈ F ∨ a ∈ B
  | _, _, _, _, .p h => ⟨[], by simp only [DV.lend]; exact .p h, fun _ q => nomatch q⟩
  | _, _, _, _, .lst e h => ⟨_, by simp only [DV.lend]; exact .ro e h, fun _ q => .inl q⟩
  | _, _, _, _, .ro e h => ⟨_, by simp only [DV.lend]; exact .ro e h, fun _ q => .inr q⟩
  | _, _, _, _, .fz e h => ⟨_, by simp only [DV.lend]; exact .fz e h, fun _ q => .inr q⟩
  | _, _, _, _, .fk e h => ⟨_, by simp only [DV.lend]; exact .fk e h, fun _ q => .inr q⟩
  | _, _, _, _, .dic e h => ⟨_, by simp only [DV.lend]; exact .rod e (.inl e) h, fun _ q => .inl q⟩
  | _, _, _, _, .rod e r h => ⟨_, by simp only [DV.lend]; exact .rod e r h, fun _ q => .inr q⟩
  | _, _, _, _, .ml e h n m => by
    obtain ⟨C, g, s⟩ := RpAll.lend h
    refine ⟨_, by simp only [DV.lend]; exact .mr e g, fun a q => ?_⟩
    rcases List.mem_cons.mp q with rfl | q
    · exact .inl (by simp)
    · exact (s a q).imp (List.mem_cons_of_mem _) id
  | _, _, _, _, .mr e h => by
    obtain ⟨C, g, s⟩ := RpAll.lend h
    refine ⟨_, by simp only [DV.lend]; exact .mr e g, fun a q => ?_⟩
    rcases List.mem_cons.mp q with rfl | q
    · exact .inr (by simp)
    · exact (s a q).imp id (List.mem_cons_of_mem _)
  | _, _, _, _, .mt t h => by
    obtain ⟨C, g, s⟩ := RpAll.lend h
    exact ⟨_, by simp only [DV.lend]; exact .mt t g, s⟩
theorem RpAll.lend {K : PySem.W.Frag} {H : Hp} : ∀ {vs : List V} {ds : List DV} {F B : Fp}, RpAll K H vs ds F B → ∃ C, RpAll K H vs (DV.lends ds) [] C ∧ ∀ a ∈ C, a ∈ F ∨ a ∈ B
  | _, _, _, _, .nil => ⟨[], by simp only [DV.lends]; exact .nil, fun _ q => nomatch q⟩
  | _, _, _, _, .cons h r d => by
    obtain ⟨C1, g1, s1⟩ := Rp.lend h
    obtain ⟨C2, g2, s2⟩ := RpAll.lend r
    refine ⟨C1 ++ C2, by simp only [DV.lends]; exact .cons (F := []) (G := []) g1 g2 (fun _ q => nomatch q), fun a q => ?_⟩
    rcases List.mem_append.mp q with q | q
    · exact (s1 a q).imp (List.mem_append_left _) (List.mem_append_left _)
    · exact (s2 a q).imp (List.mem_append_right _) (List.mem_append_right _)
end
/-! owned: nothing lent in it -/
mutual
def DV.owned : DV → Bool
  | .p _ => true
  | .lst _ => true
  | .ro _ => false
  | .fz _ => false
  | .dic _ => true
  | .rod _ => false
  | .ml ds => DV.owneds ds
  | .mr _ => false
  | .mt ds => DV.owneds ds
def DV.owneds : List DV → Bool
  | [] => true
  | d :: ds => d.owned && DV.owneds ds
end
mutual
theorem Rp.of_owned {K : PySem.W.Frag} {H : Hp} : ∀ {v : V} {d : DV} {F B : Fp}, Rp K H v d F B → d.owned = true → B = []
  | _, _, _, _, .p _, _ => rfl
  | _, _, _, _, .lst _ _, _ => rfl
  | _, _, _, _, .ro _ _, e => by simp [DV.owned] at e
  | _, _, _, _, .fz _ _, e => by simp [DV.owned] at e
  | _, _, _, _, .fk _ _, e => rfl
  | _, _, _, _, .dic _ _, _ => rfl
  | _, _, _, _, .rod _ _ _, e => by simp [DV.owned] at e
  | _, _, _, _, .ml _ h _ _, e => RpAll.of_owned h (by simpa [DV.owned] using e)
  | _, _, _, _, .mr _ _, e => by simp [DV.owned] at e
  | _, _, _, _, .mt _ h, e => RpAll.of_owned h (by simpa [DV.owned] using e)
theorem RpAll.of_owned {K : PySem.W.Frag} {H : Hp} : ∀ {vs : List V} {ds : List DV} {F B : Fp}, RpAll K H vs ds F B → DV.owneds ds = true → B = []
  | _, _, _, _, .nil, _ => rfl
  | _, _, _, _, .cons h r _, e => by
    simp [DV.owneds] at e
    rw [Rp.of_owned h e.1, RpAll.of_owned r e.2]
    rfl
end
theorem Rp.pure {K : PySem.W.Frag} {H : Hp} {v : V} {x : PV} {F B : Fp} (h : Rp K H v (.p x) F B) : RP K H v x ∧ F = [] ∧ B = [] := by
  cases h with
  | p r => exact ⟨r, rfl, rfl⟩

/-! ### the names' values -/
inductive StR (K : PySem.W.Frag) (H : Hp) : Sg → En → Fp → Fp → Prop
  | nil : StR K H [] [] [] []
  | non {v : Option V} {σ : Sg} {env : En} {F B : Fp} : StR K H σ env F B → StR K H (v :: σ) (none :: env) F B
  | som {v : V} {d : DV} {σ : Sg} {env : En} {F G B C : Fp} : Rp K H v d F B → StR K H σ env G C → Disj F G → StR K H (some v :: σ) (some d :: env) (F ++ G) (B ++ C)
section
variable {K : PySem.W.Frag} {H H' : Hp} {σ : Sg} {env : En} {F B : Fp}
theorem StR.len (h : StR K H σ env F B) : σ.length = env.length := by
  induction h with
  | nil => rfl
  | non _ ih => simp [ih]
  | som _ _ _ ih => simp [ih]
theorem StR.ext (h : StR K H σ env F B) (k : TupKeep H H') (f : ∀ a ∈ F, H' a = H a) (g : ∀ a ∈ B, H' a = H a) : StR K H' σ env F B := by
  induction h with
  | nil => exact .nil
  | non _ ih => exact .non (ih f g)
  | som r _ d ih =>
    exact .som (r.ext k (fun a q => f a (List.mem_append_left _ q)) fun a q => g a (List.mem_append_left _ q))
      (ih (fun a q => f a (List.mem_append_right _ q)) fun a q => g a (List.mem_append_right _ q)) d
theorem StR.own (h : StR K H σ env F B) : ∀ a ∈ F, ∃ o, H a = some o ∧ Mub o := by
  induction h with
  | nil => intro a q; cases q
  | non _ ih => exact ih
  | som r _ d ih => intro a q; exact (List.mem_append.mp q).elim (r.own a) (ih a)
theorem StR.lent (h : StR K H σ env F B) : ∀ a ∈ B, ∃ o, H a = some o := by
  induction h with
  | nil => intro a q; cases q
  | non _ ih => exact ih
  | som r _ d ih => intro a q; exact (List.mem_append.mp q).elim (r.lent a) (ih a)
theorem StR.get (h : StR K H σ env F B) {i : Nat} {d : DV} (e : env[i]? = some (some d)) : ∃ v G C, σ[i]? = some (some v) ∧ Rp K H v d G C ∧ (∀ a ∈ G, a ∈ F) ∧ ∀ a ∈ C, a ∈ B := by
  induction h generalizing i with
  | nil => simp at e
  | non _ ih =>
    cases i with
    | zero => simp at e
    | succ i => simpa using ih (by simpa using e)
  | som r _ d ih =>
    cases i with
    | zero =>
      simp at e; subst e
      exact ⟨_, _, _, rfl, r, fun a q => List.mem_append_left _ q, fun a q => List.mem_append_left _ q⟩
    | succ i =>
      obtain ⟨v, G, C, e1, r1, s1, s2⟩ := ih (by simpa using e)
      exact ⟨v, G, C, by simpa using e1, r1, fun a q => List.mem_append_right _ (s1 a q), fun a q => List.mem_append_right _ (s2 a q)⟩
/-- a slot forgotten -/
theorem StR.unset (h : StR K H σ env F B) (i : Nat) : ∃ F' B', StR K H σ (env.set i none) F' B' ∧ (∀ a ∈ F', a ∈ F) ∧ ∀ a ∈ B', a ∈ B := by
  induction h generalizing i with
  | nil => exact ⟨[], [], by simpa using StR.nil, fun _ q => q, fun _ q => q⟩
  | non h ih =>
    cases i with
    | zero => exact ⟨_, _, .non h, fun _ q => q, fun _ q => q⟩
    | succ i =>
      obtain ⟨F', B', h', s1, s2⟩ := ih i
      exact ⟨F', B', .non h', s1, s2⟩
  | som r h d ih =>
    cases i with
    | zero => exact ⟨_, _, .non h, fun a q => List.mem_append_right _ q, fun a q => List.mem_append_right _ q⟩
    | succ i =>
      obtain ⟨F', B', h', s1, s2⟩ := ih i
      refine ⟨_, _, .som r h' fun a q z => d a q (s1 a z), fun a q => ?_, fun a q => ?_⟩
      · exact (List.mem_append.mp q).elim (List.mem_append_left _) fun z => List.mem_append_right _ (s1 a z)
      · exact (List.mem_append.mp q).elim (List.mem_append_left _) fun z => List.mem_append_right _ (s2 a z)
/-- a slot's value taken out -/
theorem StR.take (h : StR K H σ env F B) {i : Nat} {d : DV} (e : env[i]? = some (some d)) : ∃ v G C F' B', σ[i]? = some (some v) ∧ Rp K H v d G C ∧ (∀ a ∈ G, a ∈ F) ∧ (∀ a ∈ C, a ∈ B) ∧ StR K H σ (env.set i none) F' B' ∧ (∀ a ∈ F', a ∈ F) ∧ (∀ a ∈ B', a ∈ B) ∧ Disj G F' := by
  induction h generalizing i with
  | nil => simp at e
  | non _ ih =>
    cases i with
    | zero => simp at e
    | succ i =>
      obtain ⟨v, G, C, F', B', e1, r1, s1, s2, h', t1, t2, dj⟩ := ih (by simpa using e)
      exact ⟨v, G, C, F', B', by simpa using e1, r1, s1, s2, .non h', t1, t2, dj⟩
  | som r h d ih =>
    cases i with
    | zero =>
      simp at e; subst e
      exact ⟨_, _, _, _, _, rfl, r, fun a q => List.mem_append_left _ q, fun a q => List.mem_append_left _ q, .non h, fun a q => List.mem_append_right _ q, fun a q => List.mem_append_right _ q, d⟩
    | succ i =>
      obtain ⟨v, G, C, F', B', e1, r1, s1, s2, h', t1, t2, dj⟩ := ih (by simpa using e)
      refine ⟨v, G, C, _, _, by simpa using e1, r1, fun a q => List.mem_append_right _ (s1 a q), fun a q => List.mem_append_right _ (s2 a q), .som r h' fun a q z => d a q (t1 a z), fun a q => ?_, fun a q => ?_, fun a q z => ?_⟩
      · exact (List.mem_append.mp q).elim (List.mem_append_left _) fun z => List.mem_append_right _ (t1 a z)
      · exact (List.mem_append.mp q).elim (List.mem_append_left _) fun z => List.mem_append_right _ (t2 a z)
      · rcases List.mem_append.mp z with z | z
        · exact d a z (s1 a q)
        · exact dj a q z
/-- a slot filled with a value of its own -/
theorem StR.set (h : StR K H σ env F B) {i : Nat} (hi : i < env.length) {v : V} {d : DV} {G C : Fp} (r : Rp K H v d G C) (dj : Disj G F) :
    ∃ F' B', StR K H (σ.set i (some v)) (env.set i (some d)) F' B' ∧ (∀ a ∈ F', a ∈ G ∨ a ∈ F) ∧ ∀ a ∈ B', a ∈ C ∨ a ∈ B := by
  induction h generalizing i with
  | nil => simp at hi
  | non h ih =>
    cases i with
    | zero => exact ⟨_, _, .som r h dj, fun a q => List.mem_append.mp q, fun a q => List.mem_append.mp q⟩
    | succ i =>
      obtain ⟨F', B', h', s1, s2⟩ := ih (i := i) (by simpa using hi) dj
      exact ⟨F', B', .non h', s1, s2⟩
  | som r' h d' ih =>
    cases i with
    | zero =>
      refine ⟨_, _, .som r h fun a q z => dj a q (List.mem_append_right _ z), fun a q => ?_, fun a q => ?_⟩
      · exact (List.mem_append.mp q).imp id (List.mem_append_right _)
      · exact (List.mem_append.mp q).imp id (List.mem_append_right _)
    | succ i =>
      obtain ⟨F', B', h', s1, s2⟩ := ih (i := i) (by simpa using hi) fun a q z => dj a q (List.mem_append_right _ z)
      refine ⟨_, _, .som r' h' fun a q z => ?_, fun a q => ?_, fun a q => ?_⟩
      · rcases s1 a z with z | z
        · exact dj a z (List.mem_append_left _ q)
        · exact d' a q z
      · rcases List.mem_append.mp q with q | q
        · exact .inr (List.mem_append_left _ q)
        · exact (s1 a q).imp id (List.mem_append_right _)
      · rcases List.mem_append.mp q with q | q
        · exact .inr (List.mem_append_left _ q)
        · exact (s2 a q).imp id (List.mem_append_right _)
theorem set_self {α : Type} : ∀ {l : List α} {i : Nat} {x : α}, l[i]? = some x → l.set i x = l
  | [], _, _, h => by simp at h
  | a :: r, 0, x, h => by simp at h; subst h; rfl
  | a :: r, i + 1, x, h => by
    show a :: r.set i x = a :: r
    rw [set_self (by simpa using h)]
/-- the object of a slot is changed: a reader of the others does not see it -/
theorem StR.put (h : StR K H σ env F B) (dB : Disj F B) {i : Nat} {d : DV} (e : env[i]? = some (some d)) : ∃ v G C, σ[i]? = some (some v) ∧ Rp K H v d G C ∧ (∀ a ∈ G, a ∈ F) ∧ (∀ a ∈ C, a ∈ B) ∧
    ∀ (H' : Hp) (d' : DV) (G' C' : Fp), TupKeep H H' → (∀ a o, H a = some o → a ∉ G → H' a = some o) → Rp K H' v d' G' C' → (∀ a ∈ G', a ∈ G ∨ a ∉ F) → (∀ a ∈ C', a ∈ C) →
      ∃ F' B', StR K H' σ (env.set i (some d')) F' B' ∧ (∀ a ∈ F', a ∈ F ∨ a ∈ G') ∧ ∀ a ∈ B', a ∈ B := by
  obtain ⟨v, G, C, F1, B1, e1, r1, s1, s2, h1, t1, t2, dj⟩ := h.take e
  refine ⟨v, G, C, e1, r1, s1, s2, fun H' d' G' C' k kp r' g' c' => ?_⟩
  have hk : ∀ a, a ∈ F1 ∨ a ∈ B1 → H' a = H a := fun a q => by
    have ⟨o, ho⟩ : ∃ o, H a = some o := q.elim (fun q => let ⟨o, ho, _⟩ := h1.own a q; ⟨o, ho⟩) (h1.lent a)
    rw [ho]
    refine kp a o ho fun z => ?_
    rcases q with q | q
    · exact dj a z q
    · exact dB a (s1 a z) (t2 a q)
  have h2 : StR K H' σ (env.set i none) F1 B1 := h1.ext k (fun a q => hk a (.inl q)) fun a q => hk a (.inr q)
  have hi : i < env.length := (List.getElem?_eq_some_iff.mp e).1
  obtain ⟨F', B', h3, u1, u2⟩ := h2.set (i := i) (by simpa using hi) r' fun a q z => by
    rcases g' a q with g | g
    · exact dj a g z
    · exact g (t1 a z)
  rw [List.set_set, set_self e1] at h3
  refine ⟨F', B', h3, fun a q => ?_, fun a q => ?_⟩
  · rcases u1 a q with q | q
    · exact .inr q
    · exact .inl (t1 a q)
  · rcases u2 a q with q | q
    · exact s2 a (c' a q)
    · exact t2 a q
end

/-! ### heaps: all but F is kept -/
def Keep (F : Fp) (H H' : Hp) : Prop := ∀ b o, H b = some o → b ∉ F → H' b = some o
theorem Keep.refl {F : Fp} {H : Hp} : Keep F H H := fun _ _ h _ => h
theorem _root_.L2.Same.keep {F : Fp} {H H' : Hp} (h : Same H H') : Keep F H H' := fun b o e _ => h b o e
theorem Keep.trans {F F1 : Fp} {H H1 H2 : Hp} (a : Keep F H H1) (b : Keep F1 H1 H2) (s : ∀ x ∈ F1, x ∈ F ∨ H x = none) : Keep F H H2 := fun c o e n =>
  b c o (a c o e n) fun z => (s c z).elim n fun q => by rw [q] at e; cases e
theorem Keep.new {F F1 F2 : Fp} {H H1 : Hp} (a : Keep F H H1) (s : ∀ x ∈ F1, x ∈ F ∨ H x = none) (t : ∀ x ∈ F2, x ∈ F1 ∨ H1 x = none) : ∀ x ∈ F2, x ∈ F ∨ H x = none := fun x q => by
  rcases t x q with z | z
  · exact s x z
  · by_cases hx : x ∈ F
    · exact .inl hx
    · cases e : H x with
      | none => exact .inr rfl
      | some o => rw [a x o e hx] at z; cases z
theorem Keep.tups {F : Fp} {H H' : Hp} (a : Keep F H H') (m : ∀ x ∈ F, ∃ o, H x = some o ∧ Mub o) : TupKeep H H' := fun b xs e => a b _ e fun z => by
  obtain ⟨o, ho, mo⟩ := m b z
  rw [e] at ho; cases ho; exact mo
theorem _root_.L2.Same.tups {H H' : Hp} (a : Same H H') : TupKeep H H' := fun b xs e => a b _ e
theorem _root_.L2.Same.at {H H' : Hp} (a : Same H H') {x : Addr} (h : ∃ o, H x = some o) : H' x = H x := by
  obtain ⟨o, e⟩ := h
  rw [e]; exact a x o e
theorem Keep.at {F : Fp} {H H' : Hp} (a : Keep F H H') {x : Addr} (h : ∃ o, H x = some o) (n : x ∉ F) : H' x = H x := by
  obtain ⟨o, e⟩ := h
  rw [e]; exact a x o e n
section
variable {K : PySem.W.Frag} {H H' : Hp} {σ : Sg} {env : En} {F B G C : Fp}
theorem StR.same (h : StR K H σ env F B) (s : Same H H') : StR K H' σ env F B :=
  h.ext s.tups (fun a q => s.at (let ⟨o, e, _⟩ := h.own a q; ⟨o, e⟩)) fun a q => s.at (h.lent a q)
theorem Rp.same {v : V} {d : DV} (h : Rp K H v d G C) (s : Same H H') : Rp K H' v d G C :=
  h.ext s.tups (fun a q => s.at (let ⟨o, e, _⟩ := h.own a q; ⟨o, e⟩)) fun a q => s.at (h.lent a q)
theorem RpAll.same {v : List V} {d : List DV} (h : RpAll K H v d G C) (s : Same H H') : RpAll K H' v d G C :=
  h.ext s.tups (fun a q => s.at (let ⟨o, e, _⟩ := h.own a q; ⟨o, e⟩)) fun a q => s.at (h.lent a q)
theorem RP.same {v : V} {x : PV} (h : RP K H v x) (s : Same H H') : RP K H' v x := h.ext s.tups
/-- what is apart from F is kept where all but F is -/
theorem Rp.keep {v : V} {d : DV} (h : Rp K H v d G C) (k : Keep F H H') (m : ∀ x ∈ F, ∃ o, H x = some o ∧ Mub o) (d1 : Disj F G) (d2 : Disj F C) : Rp K H' v d G C :=
  h.ext (k.tups m) (fun a q => k.at (let ⟨o, e, _⟩ := h.own a q; ⟨o, e⟩) fun z => d1 a z q) fun a q => k.at (h.lent a q) fun z => d2 a z q
theorem StR.keep {G : Fp} (h : StR K H σ env F B) (k : Keep G H H') (m : ∀ x ∈ G, ∃ o, H x = some o ∧ Mub o) (d1 : Disj G F) (d2 : Disj G B) : StR K H' σ env F B :=
  h.ext (k.tups m) (fun a q => k.at (let ⟨o, e, _⟩ := h.own a q; ⟨o, e⟩) fun z => d1 a z q) fun a q => k.at (h.lent a q) fun z => d2 a z q
end
theorem same_upd {H : Hp} {p : Addr} {o : HO} (h : H p = none) : Same H (upd H p o) := fun b x e => by
  rw [upd_ne (ne_of_none e h)]
  exact e
theorem keep_upd {H : Hp} {p : Addr} {o : HO} {F : Fp} (h : p ∈ F) : Keep F H (upd H p o) := fun b x e n => by
  rw [upd_ne (fun z => n (by rw [z]; exact h))]
  exact e
end Sm

set_option Elab.async false
set_option linter.all false
set_option maxRecDepth 100000
/-! S1: judgements whose readings are functions of the names' values: SQ (quiet), SE (with an effect), tests, arguments; rules for expressions. -/
namespace Sm
open PySem PySem.Spec PyProof.Rows L2
/-- the value at a slot -/
def En.g (env : En) (i : Nat) : Option DV := match env[i]? with
  | some (some d) => some d
  | _ => none
theorem En.g_some {env : En} {i : Nat} {d : DV} (h : env.g i = some d) : env[i]? = some (some d) := by
  unfold En.g at h
  split at h
  · rename_i e; cases h; exact e
  · cases h
/-- own places or new ones -/
def Nw (F : Fp) (H : Hp) (G : Fp) : Prop := ∀ a, a ∈ G → a ∈ F ∨ H a = none
def Sb (B B' : Fp) : Prop := ∀ a, a ∈ B' → a ∈ B
theorem Nw.self {F : Fp} {H : Hp} : Nw F H F := fun _ q => .inl q
theorem Sb.self {B : Fp} : Sb B B := fun _ q => q
theorem Sb.trans {B B' B'' : Fp} (a : Sb B B') (b : Sb B' B'') : Sb B B'' := fun x q => a x (b x q)
theorem Nw.trans {F F1 F2 : Fp} {H H1 : Hp} (k : Keep F H H1) (a : Nw F H F1) (b : Nw F1 H1 F2) : Nw F H F2 := Keep.new k a b
theorem Nw.same {F F1 : Fp} {H H1 : Hp} (k : Same H H1) (b : Nw F H1 F1) : Nw F H F1 := fun x q => (b x q).imp id k.free
section
variable {K : PySem.W.Frag} {H H' : Hp} {σ : Sg} {env env' : En} {F F' B B' G : Fp}
/-- what is own or new stays apart from what is lent -/
theorem dj_of (h : StR K H σ env F B) (d : Disj F B) (n : Nw F H F') (b : Sb B B') : Disj F' B' := fun a q z => by
  rcases n a q with n | n
  · exact d a n (b a z)
  · obtain ⟨o, e⟩ := h.lent a (b a z)
    rw [n] at e; cases e
end
theorem pe_imp {X : Cx} {e : Expr} {t t' : TE} (h : PE X e t) (i : ∀ σ H Q, t' σ H Q → t σ H Q) : PE X e t' := ⟨fun pins s σ H Q I hq => h.run pins s σ H Q I (i _ _ _ hq)⟩
theorem pt_imp {X : Cx} {e : Expr} {t t' : TT} (h : PT X e t) (i : ∀ σ H Q, t' σ H Q → t σ H Q) : PT X e t' := ⟨fun pins s σ H Q I hq => h.run pins s σ H Q I (i _ _ _ hq)⟩
theorem pw_imp {X : Cx} {e : Expr} {t t' : TT} (h : PW X e t) (i : ∀ σ H Q, t' σ H Q → t σ H Q) : PW X e t' := ⟨fun w pins s σ H Q I hq => h.run w pins s σ H Q I (i _ _ _ hq)⟩
theorem pa_imp {X : Cx} {e : List Expr} {t t' : TA} (h : PA X e t) (i : ∀ σ H Q, t' σ H Q → t σ H Q) : PA X e t' := ⟨fun w pins s σ H Q I hq => h.run w pins s σ H Q I (i _ _ _ hq)⟩

/-! ### quiet expressions -/
def rQ (K : PySem.W.Frag) (q : En → Option DV) : TE := fun σ H Q => ∃ env F B d, StR K H σ env F B ∧ Disj F B ∧ q env = some d ∧
  ∀ v H' G C, Same H H' → Rp K H' v d G C → (∀ a ∈ G, H a = none) → (∀ a ∈ C, a ∈ F ∨ a ∈ B) → Q v H'
structure SQ (X : Cx) (e : Expr) (q : En → Option DV) : Prop where
  pe : PE X e (rQ X.K q)
/-! ### expressions with an effect on the names' own values; what is told is own -/
def rE (K : PySem.W.Frag) (f : En → Option (DV × En)) : TE := fun σ H Q => ∃ env F B d env', StR K H σ env F B ∧ Disj F B ∧ f env = some (d, env') ∧
  ∀ v H' F' B' G, Keep F H H' → StR K H' σ env' F' B' → Nw F H F' → Sb B B' → Rp K H' v d G [] → Nw F H G → Disj G F' → Q v H'
structure SE (X : Cx) (e : Expr) (f : En → Option (DV × En)) : Prop where
  pe : PE X e (rE X.K f)
def ofQ (q : En → Option DV) : En → Option (DV × En) := fun env => match q env with
  | some d => if d.owned then some (d, env) else none
  | none => none
section
variable {X : Cx} {e a b c : Expr} {pos : Pos}
theorem se_q {q : En → Option DV} (h : SQ X e q) : SE X e (ofQ q) := by
  refine ⟨pe_imp h.pe ?_⟩
  rintro σ H Q ⟨env, F, B, d, env', hS, dj, hf, k⟩
  unfold ofQ at hf
  split at hf
  · rename_i d' hq
    by_cases ho : d'.owned = true
    · rw [if_pos ho] at hf
      cases hf
      refine ⟨env, F, B, d, hS, dj, hq, fun v H' G C sm r gn cs => ?_⟩
      have hC : C = [] := r.of_owned ho
      subst hC
      refine k v H' F B G sm.keep (hS.same sm) Nw.self Sb.self r (fun a q => .inr (gn a q)) fun a q z => ?_
      obtain ⟨o, e, _⟩ := hS.own a z
      rw [gn a q] at e; cases e
    · rw [if_neg ho] at hf; cases hf
  · cases hf

/-! ### names and constants -/
def qVar (i : Nat) : En → Option DV := fun env => (env.g i).map DV.lend
def qC (x : PV) : En → Option DV := fun _ => some (.p x)
theorem sq_var (i : Nat) {x : Str} (hN : X.N[i]? = some x := by rfl) (hv : Vis X.env.scope x := by first | exact Or.inl rfl | exact Or.inr (Or.inl rfl) | exact Or.inr (Or.inr rfl)) (hd : (x == ("__debug__" : Str)) = false := by decide)
    (hcd : (x == ("__classdict__" : Str)) = false := by decide) : SQ X (.Name x pos) (qVar i) := by
  refine ⟨pe_imp (pe_var hN hv hd hcd) ?_⟩
  rintro σ H Q ⟨env, F, B, d, hS, dj, hq, k⟩
  unfold qVar at hq
  obtain ⟨d0, h0, rfl⟩ := Option.map_eq_some_iff.mp hq
  obtain ⟨v, G, C, e1, r1, s1, s2⟩ := hS.get (En.g_some h0)
  obtain ⟨C', r2, s3⟩ := r1.lend
  exact ⟨v, e1, k v H [] C' (Same.refl H) r2 (fun _ q => nomatch q) fun a q => (s3 a q).imp (s1 a) (s2 a)⟩
theorem sq_const {v : V} {x : PV} (h : PE X e (tC v)) (r : ∀ K H, RP K H v x) : SQ X e (qC x) := by
  refine ⟨pe_imp h ?_⟩
  rintro σ H Q ⟨env, F, B, d, hS, dj, hq, k⟩
  cases hq
  exact k v H [] [] (Same.refl H) (.p (r _ _)) (fun _ q => nomatch q) fun _ q => nomatch q
theorem sq_int {i j} : SQ X (.Constant (.int i) j pos) (qC (.int i)) := sq_const (v := .int i) pe_int fun _ _ => .int i
theorem sq_bl {i j} : SQ X (.Constant (.bool i) j pos) (qC (.bl i)) := sq_const (v := .bl i) pe_bl fun _ _ => .bl i
theorem sq_non {j} : SQ X (.Constant .none j pos) (qC .non) := sq_const (v := .non) pe_non fun _ _ => .non
theorem sq_str {x j} : SQ X (.Constant (.str x) j pos) (qC (.str x)) := sq_const (v := .str x) pe_str fun _ _ => .str x
def GI (mg : Str → Option Value) (x : Str) (i : Int) : Prop := ∃ t, mg x = some (.int i t)
def GS (mg : Str → Option Value) (x : Str) (z : Str) : Prop := ∃ t, mg x = some (.str z t)
theorem sq_gi {x : Str} {i : Int} (h : GI X.mg x i) (hg : Gl X x := by rfl) (hd : (x == ("__debug__" : Str)) = false := by decide) : SQ X (.Name x pos) (qC (.int i)) := by
  obtain ⟨t, e⟩ := h
  exact sq_const (v := .int i) (pe_glob hg e (show RelV (.int i) _ from ⟨t, rfl⟩) hd) fun _ _ => .int i
theorem sq_gs {x z : Str} (h : GS X.mg x z) (hg : Gl X x := by rfl) (hd : (x == ("__debug__" : Str)) = false := by decide) : SQ X (.Name x pos) (qC (.str z)) := by
  obtain ⟨t, e⟩ := h
  exact sq_const (v := .str z) (pe_glob hg e (show RelV (.str z) _ from ⟨t, rfl⟩) hd) fun _ _ => .str z

/-! ### operators by values -/
def SOp (X : Cx) (f : Value → Value → Sem Value) (g : DV → DV → Option DV) : Prop :=
  OpR X f (fun x y H Q => ∃ d1 G1 C1 d2 G2 C2 d, Rp X.K H x d1 G1 C1 ∧ Rp X.K H y d2 G2 C2 ∧ g d1 d2 = some d ∧ ∀ v H' G, Same H H' → Rp X.K H' v d G [] → (∀ a ∈ G, H a = none) → Q v H')
theorem sop_of {f : Value → Value → Sem Value} {r : R2} {g : DV → DV → Option DV} (h : OpR X f r)
    (i : ∀ x y H Q d1 G1 C1 d2 G2 C2 d, Rp X.K H x d1 G1 C1 → Rp X.K H y d2 G2 C2 → g d1 d2 = some d → (∀ v H' G, Same H H' → Rp X.K H' v d G [] → (∀ a ∈ G, H a = none) → Q v H') → r x y H Q) : SOp X f g := by
  intro pins s σ H x y v u Q I rx ry q
  obtain ⟨d1, G1, C1, d2, G2, C2, d, r1, r2, e, k⟩ := q
  exact h pins s σ H x y v u Q I rx ry (i x y H Q d1 G1 C1 d2 G2 C2 d r1 r2 e k)
/-- either of two -/
theorem sop_or {f : Value → Value → Sem Value} {g g' h : DV → DV → Option DV} (a : SOp X f g) (b : SOp X f g') (o : ∀ d1 d2 d, h d1 d2 = some d → g d1 d2 = some d ∨ g' d1 d2 = some d) : SOp X f h := by
  intro pins s σ H x y v u Q I rx ry q
  obtain ⟨d1, G1, C1, d2, G2, C2, d, r1, r2, e, k⟩ := q
  rcases o d1 d2 d e with e | e
  · exact a pins s σ H x y v u Q I rx ry ⟨d1, G1, C1, d2, G2, C2, d, r1, r2, e, k⟩
  · exact b pins s σ H x y v u Q I rx ry ⟨d1, G1, C1, d2, G2, C2, d, r1, r2, e, k⟩
def qOp (g : DV → DV → Option DV) (a b : En → Option DV) : En → Option DV := fun env => (a env).bind fun x => (b env).bind fun y => g x y
def eOp (g : DV → DV → Option DV) (a b : En → Option (DV × En)) : En → Option (DV × En) := fun env => (a env).bind fun x => match x.1 with
  | .p _ => (b x.2).bind fun y => (g x.1 y.1).map fun d => (d, y.2)
  | _ => none
theorem rq_op {r : R2} {qa qb : En → Option DV} {g : DV → DV → Option DV}
    (i : ∀ x y H Q d1 G1 C1 d2 G2 C2 d, Rp X.K H x d1 G1 C1 → Rp X.K H y d2 G2 C2 → g d1 d2 = some d → (∀ v H' G, Same H H' → Rp X.K H' v d G [] → (∀ a ∈ G, H a = none) → Q v H') → r x y H Q)
    {σ : Sg} {H : Hp} {Q : VK} (h : rQ X.K (qOp g qa qb) σ H Q) : tOp r (rQ X.K qa) (rQ X.K qb) σ H Q := by
  obtain ⟨env, F, B, d, hS, dj, hq, k⟩ := h
  obtain ⟨d1, h1, hq⟩ := Option.bind_eq_some_iff.mp hq
  obtain ⟨d2, h2, hq⟩ := Option.bind_eq_some_iff.mp hq
  refine ⟨env, F, B, d1, hS, dj, h1, fun v H1 G1 C1 sm1 r1 n1 c1 => ?_⟩
  refine ⟨env, F, B, d2, hS.same sm1, dj, h2, fun u H2 G2 C2 sm2 r2 n2 c2 => ?_⟩
  refine i v u H2 Q d1 G1 C1 d2 G2 C2 d (r1.same sm2) r2 hq fun w H3 G sm3 r3 n3 => ?_
  exact k w H3 G [] ((sm1.trans sm2).trans sm3) r3 (fun a q => (sm1.trans sm2).free (n3 a q)) fun _ q => nomatch q
theorem sq_op {op : Operator} {g : DV → DV → Option DV} {qa qb : En → Option DV} (h : SOp X (binaryOp op) g) (ha : SQ X a qa) (hb : SQ X b qb) : SQ X (.BinOp a op b pos) (qOp g qa qb) :=
  ⟨pe_imp (pe_op h ha.pe hb.pe) fun σ H Q => rq_op fun x y H Q d1 G1 C1 d2 G2 C2 d r1 r2 e k => ⟨d1, G1, C1, d2, G2, C2, d, r1, r2, e, k⟩⟩
theorem re_op {r : R2} {fa fb : En → Option (DV × En)} {g : DV → DV → Option DV}
    (i : ∀ x y H Q d1 G1 C1 d2 G2 C2 d, Rp X.K H x d1 G1 C1 → Rp X.K H y d2 G2 C2 → g d1 d2 = some d → (∀ v H' G, Same H H' → Rp X.K H' v d G [] → (∀ a ∈ G, H a = none) → Q v H') → r x y H Q)
    {σ : Sg} {H : Hp} {Q : VK} (h : rE X.K (eOp g fa fb) σ H Q) : tOp r (rE X.K fa) (rE X.K fb) σ H Q := by
  obtain ⟨env, F, B, d, env', hS, dj, hf, k⟩ := h
  obtain ⟨⟨d1, env1⟩, h1, hf⟩ := Option.bind_eq_some_iff.mp hf
  dsimp only at hf
  split at hf
  · rename_i x1
    obtain ⟨⟨d2, env2⟩, h2, hf⟩ := Option.bind_eq_some_iff.mp hf
    obtain ⟨d', hg, hf⟩ := Option.map_eq_some_iff.mp hf
    cases hf
    refine ⟨env, F, B, _, env1, hS, dj, h1, fun v H1 F1 B1 G1 k1 S1 n1 b1 r1 g1 dj1 => ?_⟩
    have djF1 := dj_of hS dj n1 b1
    refine ⟨env1, F1, B1, d2, env2, S1, djF1, h2, fun u H2 F2 B2 G2 k2 S2 n2 b2 r2 g2 dj2 => ?_⟩
    obtain ⟨rp, hG, _⟩ := r1.pure
    refine i v u H2 Q _ [] [] d2 G2 [] _ (.p (rp.ext (k2.tups fun x q => S1.own x q))) r2 hg fun w H3 G sm3 r3 n3 => ?_
    have k12 : Keep F H H2 := k1.trans k2 n1
    refine k w H3 F2 B2 G (k12.trans (F1 := F) sm3.keep fun x q => .inl q) (S2.same sm3) (Nw.trans k1 n1 n2) (b1.trans b2) r3 (fun x q => ?_) fun x q z => ?_
    · have : H2 x = none := n3 x q
      by_cases hx : x ∈ F
      · exact .inl hx
      · cases e : H x with
        | none => exact .inr rfl
        | some o => rw [k12 x o e hx] at this; cases this
    · obtain ⟨o, e, _⟩ := S2.own x z
      rw [n3 x q] at e; cases e
  · cases hf
theorem se_op {op : Operator} {g : DV → DV → Option DV} {fa fb : En → Option (DV × En)} (h : SOp X (binaryOp op) g) (ha : SE X a fa) (hb : SE X b fb) : SE X (.BinOp a op b pos) (eOp g fa fb) :=
  ⟨pe_imp (pe_op h ha.pe hb.pe) fun σ H Q => re_op fun x y H Q d1 G1 C1 d2 G2 C2 d r1 r2 e k => ⟨d1, G1, C1, d2, G2, C2, d, r1, r2, e, k⟩⟩
theorem sq_cmp {op : CmpOp} {g : DV → DV → Option DV} {qa qb : En → Option DV} (h : SOp X (compareOp op) g) (ha : SQ X a qa) (hb : SQ X b qb) (hm : behindInMarks op b = false := by first | exact nobehind _ (by decide) (by decide) | rfl) : SQ X (.Compare a [op] [b] pos) (qOp g qa qb) :=
  ⟨pe_imp (pe_cmpR h ha.pe hb.pe hm) fun σ H Q => rq_op fun x y H Q d1 G1 C1 d2 G2 C2 d r1 r2 e k => ⟨d1, G1, C1, d2, G2, C2, d, r1, r2, e, k⟩⟩
theorem se_cmp {op : CmpOp} {g : DV → DV → Option DV} {fa fb : En → Option (DV × En)} (h : SOp X (compareOp op) g) (ha : SE X a fa) (hb : SE X b fb) (hm : behindInMarks op b = false := by first | exact nobehind _ (by decide) (by decide) | rfl) : SE X (.Compare a [op] [b] pos) (eOp g fa fb) :=
  ⟨pe_imp (pe_cmpR h ha.pe hb.pe hm) fun σ H Q => re_op fun x y H Q d1 G1 C1 d2 G2 C2 d r1 r2 e k => ⟨d1, G1, C1, d2, G2, C2, d, r1, r2, e, k⟩⟩
/-- unary -/
def SUn (X : Cx) (f : Value → Sem Value) (g : DV → Option DV) : Prop :=
  UnR X f (fun x H Q => ∃ d1 G1 C1 d, Rp X.K H x d1 G1 C1 ∧ g d1 = some d ∧ ∀ v H' G, Same H H' → Rp X.K H' v d G [] → (∀ a ∈ G, H a = none) → Q v H')
def qUn (g : DV → Option DV) (a : En → Option DV) : En → Option DV := fun env => (a env).bind g
def eUn (g : DV → Option DV) (a : En → Option (DV × En)) : En → Option (DV × En) := fun env => (a env).bind fun x => (g x.1).map fun d => (d, x.2)
theorem rq_un {r : V → Hp → VK → Prop} {qa : En → Option DV} {g : DV → Option DV}
    (i : ∀ x H Q d1 G1 C1 d, Rp X.K H x d1 G1 C1 → g d1 = some d → (∀ v H' G, Same H H' → Rp X.K H' v d G [] → (∀ a ∈ G, H a = none) → Q v H') → r x H Q)
    {σ : Sg} {H : Hp} {Q : VK} (h : rQ X.K (qUn g qa) σ H Q) : tUn r (rQ X.K qa) σ H Q := by
  obtain ⟨env, F, B, d, hS, dj, hq, k⟩ := h
  obtain ⟨d1, h1, hq⟩ := Option.bind_eq_some_iff.mp hq
  refine ⟨env, F, B, d1, hS, dj, h1, fun v H1 G1 C1 sm1 r1 n1 c1 => ?_⟩
  refine i v H1 Q d1 G1 C1 d r1 hq fun w H3 G sm3 r3 n3 => ?_
  exact k w H3 G [] (sm1.trans sm3) r3 (fun a q => sm1.free (n3 a q)) fun _ q => nomatch q
theorem re_un {r : V → Hp → VK → Prop} {fa : En → Option (DV × En)} {g : DV → Option DV}
    (i : ∀ x H Q d1 G1 C1 d, Rp X.K H x d1 G1 C1 → g d1 = some d → (∀ v H' G, Same H H' → Rp X.K H' v d G [] → (∀ a ∈ G, H a = none) → Q v H') → r x H Q)
    {σ : Sg} {H : Hp} {Q : VK} (h : rE X.K (eUn g fa) σ H Q) : tUn r (rE X.K fa) σ H Q := by
  obtain ⟨env, F, B, d, env', hS, dj, hf, k⟩ := h
  obtain ⟨⟨d1, env1⟩, h1, hf⟩ := Option.bind_eq_some_iff.mp hf
  obtain ⟨d', hg, hf⟩ := Option.map_eq_some_iff.mp hf
  cases hf
  refine ⟨env, F, B, _, _, hS, dj, h1, fun v H1 F1 B1 G1 k1 S1 n1 b1 r1 g1 dj1 => ?_⟩
  refine i v H1 Q d1 G1 [] _ r1 hg fun w H3 G sm3 r3 n3 => ?_
  refine k w H3 F1 B1 G (k1.trans (F1 := F) sm3.keep fun x q => .inl q) (S1.same sm3) n1 b1 r3 (fun x q => ?_) fun x q z => ?_
  · have : H1 x = none := n3 x q
    by_cases hx : x ∈ F
    · exact .inl hx
    · cases e : H x with
      | none => exact .inr rfl
      | some o => rw [k1 x o e hx] at this; cases this
  · obtain ⟨o, e, _⟩ := S1.own x z
    rw [n3 x q] at e; cases e
theorem sq_un {op : UnaryOp} {g : DV → Option DV} {qa : En → Option DV} (h : SUn X (unaryOp op) g) (ha : SQ X a qa) : SQ X (.UnaryOp op a pos) (qUn g qa) :=
  ⟨pe_imp (pe_un h ha.pe) fun σ H Q => rq_un fun x H Q d1 G1 C1 d r1 e k => ⟨d1, G1, C1, d, r1, e, k⟩⟩
theorem se_un {op : UnaryOp} {g : DV → Option DV} {fa : En → Option (DV × En)} (h : SUn X (unaryOp op) g) (ha : SE X a fa) : SE X (.UnaryOp op a pos) (eUn g fa) :=
  ⟨pe_imp (pe_un h ha.pe) fun σ H Q => re_un fun x H Q d1 G1 C1 d r1 e k => ⟨d1, G1, C1, d, r1, e, k⟩⟩
/-- two comparisons, the middle once -/
def DV.bool? : DV → Option Bool
  | .p (.bl b) => some b
  | _ => none
def qChain (g g' : DV → DV → Option DV) (a b c : En → Option DV) : En → Option DV := fun env => (a env).bind fun x => (b env).bind fun y => (g x y).bind fun z => match z with
  | .p (.bl true) => (c env).bind fun w => g' y w
  | .p (.bl false) => some (.p (.bl false))
  | _ => none
theorem sq_chain {op op' : CmpOp} {g g' : DV → DV → Option DV} {qa qb qc : En → Option DV} (h : SOp X (compareOp op) g) (h' : SOp X (compareOp op') g') (ha : SQ X a qa) (hb : SQ X b qb) (hc : SQ X c qc)
    (hm : lastMarks [op, op'] [b, c] = false := by with_unfolding_all rfl) : SQ X (.Compare a [op, op'] [b, c] pos) (qChain g g' qa qb qc) := by
  refine ⟨pe_imp (pe_chain h h' ha.pe hb.pe hc.pe hm) ?_⟩
  rintro σ H Q ⟨env, F, B, d, hS, dj, hq, k⟩
  obtain ⟨d1, h1, hq⟩ := Option.bind_eq_some_iff.mp hq
  obtain ⟨d2, h2, hq⟩ := Option.bind_eq_some_iff.mp hq
  obtain ⟨d3, h3, hq⟩ := Option.bind_eq_some_iff.mp hq
  refine ⟨env, F, B, d1, hS, dj, h1, fun v H1 G1 C1 sm1 r1 n1 c1 => ?_⟩
  refine ⟨env, F, B, d2, hS.same sm1, dj, h2, fun u H2 G2 C2 sm2 r2 n2 c2 => ?_⟩
  refine ⟨d1, G1, C1, d2, G2, C2, d3, r1.same sm2, r2, h3, fun w H3 G3 sm3 r3 n3 => ?_⟩
  split at hq
  · obtain ⟨rp, _, _⟩ := r3.pure
    cases rp
    refine ⟨true, rfl, ?_⟩
    refine iteT ?_
    obtain ⟨d4, h4, hq⟩ := Option.bind_eq_some_iff.mp hq
    have s3 : Same H H3 := (sm1.trans sm2).trans sm3
    refine ⟨env, F, B, d4, hS.same s3, dj, h4, fun w4 H4 G4 C4 sm4 r4 n4 c4 => ?_⟩
    refine ⟨d2, G2, C2, d4, G4, C4, d, r2.same (sm3.trans sm4), r4, hq, fun w5 H5 G5 sm5 r5 n5 => ?_⟩
    exact k w5 H5 G5 [] ((s3.trans sm4).trans sm5) r5 (fun a q => (s3.trans sm4).free (n5 a q)) fun _ q => nomatch q
  · obtain ⟨rp, _, _⟩ := r3.pure
    cases rp
    refine ⟨false, rfl, ?_⟩
    refine iteF ?_
    cases hq
    exact k _ H3 [] [] ((sm1.trans sm2).trans sm3) (.p (.bl false)) (fun _ q => nomatch q) fun _ q => nomatch q
  · cases hq

/-! ### tests -/
def rT (K : PySem.W.Frag) (t : En → Option (Bool × En)) : TT := fun σ H Q => ∃ env F B b env', StR K H σ env F B ∧ Disj F B ∧ t env = some (b, env') ∧
  ∀ H' F' B', Keep F H H' → StR K H' σ env' F' B' → Nw F H F' → Sb B B' → Q b H'
structure ST (X : Cx) (e : Expr) (t : En → Option (Bool × En)) : Prop where
  pt : PT X e (rT X.K t)
structure SW (X : Cx) (e : Expr) (t : En → Option (Bool × En)) : Prop where
  pw : PW X e (rT X.K t)
def tQ (q : En → Option DV) : En → Option (Bool × En) := fun env => match q env with
  | some (.p (.bl b)) => some (b, env)
  | _ => none
def tE (f : En → Option (DV × En)) : En → Option (Bool × En) := fun env => match f env with
  | some (.p (.bl b), env') => some (b, env')
  | _ => none
theorem rt_q {q : En → Option DV} {σ : Sg} {H : Hp} {Q : Bool → Hp → Prop} (h : rT X.K (tQ q) σ H Q) : rQ X.K q σ H fun x H1 => ∃ c, x = .bl c ∧ Q c H1 := by
  obtain ⟨env, F, B, b, env', hS, dj, ht, k⟩ := h
  unfold tQ at ht
  split at ht
  · rename_i b' hq
    cases ht
    refine ⟨env, F, B, _, hS, dj, hq, fun v H' G C sm r gn cs => ?_⟩
    obtain ⟨rp, _, _⟩ := r.pure
    cases rp
    exact ⟨b, rfl, k H' F B sm.keep (hS.same sm) Nw.self Sb.self⟩
  · cases ht
theorem rt_e {f : En → Option (DV × En)} {σ : Sg} {H : Hp} {Q : Bool → Hp → Prop} (h : rT X.K (tE f) σ H Q) : rE X.K f σ H fun x H1 => ∃ c, x = .bl c ∧ Q c H1 := by
  obtain ⟨env, F, B, b, env', hS, dj, ht, k⟩ := h
  unfold tE at ht
  split at ht
  · rename_i b' e' hq
    cases ht
    refine ⟨env, F, B, _, _, hS, dj, hq, fun v H' F' B' G k1 S1 n1 b1 r g1 d1 => ?_⟩
    obtain ⟨rp, _, _⟩ := r.pure
    cases rp
    exact ⟨b, rfl, k H' F' B' k1 S1 n1 b1⟩
  · cases ht
/-- an expression that tells a bool -/
theorem st_q {q : En → Option DV} (h : SQ X e q) (he : ∀ whole, isTrue e X.env whole = (do let v ← whole; standAt e.pos; holding [v] (truthy v)) := by intro _; rfl) : ST X e (tQ q) :=
  ⟨pt_imp (pt_val h.pe he) fun _ _ _ => rt_q⟩
theorem st_e {f : En → Option (DV × En)} (h : SE X e f) (he : ∀ whole, isTrue e X.env whole = (do let v ← whole; standAt e.pos; holding [v] (truthy v)) := by intro _; rfl) : ST X e (tE f) :=
  ⟨pt_imp (pt_val h.pe he) fun _ _ _ => rt_e⟩
/-- comparisons as tests -/
theorem st_cmp {op : CmpOp} {g : DV → DV → Option DV} {qa qb : En → Option DV} (h : SOp X (compareOp op) g) (ha : SQ X a qa) (hb : SQ X b qb) (hm : behindInMarks op b = false := by first | exact nobehind _ (by decide) (by decide) | rfl) : ST X (.Compare a [op] [b] pos) (tQ (qOp g qa qb)) :=
  ⟨pt_imp (pt_cmpR h ha.pe hb.pe hm) fun σ H Q z => rq_op (fun x y H Q d1 G1 C1 d2 G2 C2 d r1 r2 e k => ⟨d1, G1, C1, d2, G2, C2, d, r1, r2, e, k⟩) (rt_q z)⟩
theorem st_cmpE {op : CmpOp} {g : DV → DV → Option DV} {fa fb : En → Option (DV × En)} (h : SOp X (compareOp op) g) (ha : SE X a fa) (hb : SE X b fb) (hm : behindInMarks op b = false := by first | exact nobehind _ (by decide) (by decide) | rfl) : ST X (.Compare a [op] [b] pos) (tE (eOp g fa fb)) :=
  ⟨pt_imp (pt_cmpR h ha.pe hb.pe hm) fun σ H Q z => re_op (fun x y H Q d1 G1 C1 d2 G2 C2 d r1 r2 e k => ⟨d1, G1, C1, d2, G2, C2, d, r1, r2, e, k⟩) (rt_e z)⟩
theorem st_chain {op op' : CmpOp} {g g' : DV → DV → Option DV} {qa qb qc : En → Option DV} (h : SOp X (compareOp op) g) (h' : SOp X (compareOp op') g') (ha : SQ X a qa) (hb : SQ X b qb) (hc : SQ X c qc)
    (hm : lastMarks [op, op'] [b, c] = false := by with_unfolding_all rfl) : ST X (.Compare a [op, op'] [b, c] pos) (tQ (qChain g g' qa qb qc)) := by
  refine ⟨pt_imp (pt_chain h h' ha.pe hb.pe hc.pe hm) ?_⟩
  rintro σ H Q z
  have z := rt_q z
  obtain ⟨env, F, B, d, hS, dj, hq, k⟩ := z
  obtain ⟨d1, h1, hq⟩ := Option.bind_eq_some_iff.mp hq
  obtain ⟨d2, h2, hq⟩ := Option.bind_eq_some_iff.mp hq
  obtain ⟨d3, h3, hq⟩ := Option.bind_eq_some_iff.mp hq
  refine ⟨env, F, B, d1, hS, dj, h1, fun v H1 G1 C1 sm1 r1 n1 c1 => ?_⟩
  refine ⟨env, F, B, d2, hS.same sm1, dj, h2, fun u H2 G2 C2 sm2 r2 n2 c2 => ?_⟩
  refine ⟨d1, G1, C1, d2, G2, C2, d3, r1.same sm2, r2, h3, fun w H3 G3 sm3 r3 n3 => ?_⟩
  split at hq
  · obtain ⟨rp, _, _⟩ := r3.pure
    cases rp
    refine ⟨true, rfl, ?_⟩
    refine iteT ?_
    obtain ⟨d4, h4, hq⟩ := Option.bind_eq_some_iff.mp hq
    have s3 : Same H H3 := (sm1.trans sm2).trans sm3
    refine ⟨env, F, B, d4, hS.same s3, dj, h4, fun w4 H4 G4 C4 sm4 r4 n4 c4 => ?_⟩
    refine ⟨d2, G2, C2, d4, G4, C4, d, r2.same (sm3.trans sm4), r4, hq, fun w5 H5 G5 sm5 r5 n5 => ?_⟩
    exact k w5 H5 G5 [] ((s3.trans sm4).trans sm5) r5 (fun a q => (s3.trans sm4).free (n5 a q)) fun _ q => nomatch q
  · obtain ⟨rp, _, _⟩ := r3.pure
    cases rp
    refine ⟨false, rfl, ?_⟩
    refine iteF ?_
    cases hq
    exact k _ H3 [] [] ((sm1.trans sm2).trans sm3) (.p (.bl false)) (fun _ q => nomatch q) fun _ q => nomatch q
  · cases hq
def tNot' (t : En → Option (Bool × En)) : En → Option (Bool × En) := fun env => (t env).map fun x => (!x.1, x.2)
def tAnd' (t u : En → Option (Bool × En)) : En → Option (Bool × En) := fun env => match t env with
  | some (true, e1) => u e1
  | some (false, e1) => some (false, e1)
  | none => none
def tOr' (t u : En → Option (Bool × En)) : En → Option (Bool × En) := fun env => match t env with
  | some (true, e1) => some (true, e1)
  | some (false, e1) => u e1
  | none => none
theorem st_not {t : En → Option (Bool × En)} (h : ST X a t) : ST X (.UnaryOp .Not a pos) (tNot' t) := by
  refine ⟨pt_imp (pt_not h.pt) ?_⟩
  rintro σ H Q ⟨env, F, B, b, env', hS, dj, ht, k⟩
  obtain ⟨⟨b1, e1⟩, h1, h2⟩ := Option.map_eq_some_iff.mp ht
  cases h2
  exact ⟨env, F, B, b1, _, hS, dj, h1, fun H' F' B' k1 S1 n1 s1 => k H' F' B' k1 S1 n1 s1⟩
theorem rt_and {t u : En → Option (Bool × En)} {σ : Sg} {H : Hp} {Q : Bool → Hp → Prop} (h : rT X.K (tAnd' t u) σ H Q) : tAnd (rT X.K t) (rT X.K u) σ H Q := by
  obtain ⟨env, F, B, b, env', hS, dj, ht, k⟩ := h
  unfold tAnd' at ht
  split at ht
  · rename_i e1 h1
    refine ⟨env, F, B, true, e1, hS, dj, h1, fun H1 F1 B1 k1 S1 n1 b1 => ?_⟩
    refine iteT ?_
    exact ⟨e1, F1, B1, b, env', S1, dj_of hS dj n1 b1, ht, fun H2 F2 B2 k2 S2 n2 b2 => k H2 F2 B2 (k1.trans k2 n1) S2 (Nw.trans k1 n1 n2) (b1.trans b2)⟩
  · rename_i e1 h1
    cases ht
    refine ⟨env, F, B, false, _, hS, dj, h1, fun H1 F1 B1 k1 S1 n1 b1 => ?_⟩
    refine iteF ?_
    exact k H1 F1 B1 k1 S1 n1 b1
  · cases ht
theorem rt_or {t u : En → Option (Bool × En)} {σ : Sg} {H : Hp} {Q : Bool → Hp → Prop} (h : rT X.K (tOr' t u) σ H Q) : tOr (rT X.K t) (rT X.K u) σ H Q := by
  obtain ⟨env, F, B, b, env', hS, dj, ht, k⟩ := h
  unfold tOr' at ht
  split at ht
  · rename_i e1 h1
    cases ht
    refine ⟨env, F, B, true, _, hS, dj, h1, fun H1 F1 B1 k1 S1 n1 b1 => ?_⟩
    refine iteT ?_
    exact k H1 F1 B1 k1 S1 n1 b1
  · rename_i e1 h1
    refine ⟨env, F, B, false, e1, hS, dj, h1, fun H1 F1 B1 k1 S1 n1 b1 => ?_⟩
    refine iteF ?_
    exact ⟨e1, F1, B1, b, env', S1, dj_of hS dj n1 b1, ht, fun H2 F2 B2 k2 S2 n2 b2 => k H2 F2 B2 (k1.trans k2 n1) S2 (Nw.trans k1 n1 n2) (b1.trans b2)⟩
  · cases ht
section
variable {rest : List Expr}
theorem sw_and1 {t : En → Option (Bool × En)} (h : ST X a t) : SW X (.BoolOp .And [a] pos) t := ⟨pw_and1 h.pt⟩
theorem sw_or1 {t : En → Option (Bool × En)} (h : ST X a t) : SW X (.BoolOp .Or [a] pos) t := ⟨pw_or1 h.pt⟩
theorem sw_and {t u : En → Option (Bool × En)} (h : ST X a t) (h' : SW X (.BoolOp .And (b :: rest) pos) u) : SW X (.BoolOp .And (a :: b :: rest) pos) (tAnd' t u) := ⟨pw_imp (pw_and h.pt h'.pw) fun _ _ _ => rt_and⟩
theorem sw_or {t u : En → Option (Bool × En)} (h : ST X a t) (h' : SW X (.BoolOp .Or (b :: rest) pos) u) : SW X (.BoolOp .Or (a :: b :: rest) pos) (tOr' t u) := ⟨pw_imp (pw_or h.pt h'.pw) fun _ _ _ => rt_or⟩
theorem st_w {t : En → Option (Bool × En)} (h : SW X e t) : ST X e t := ⟨h.pw.pt⟩
/-! .. as values -/
def qAnd (a b : En → Option DV) : En → Option DV := fun env => match a env with
  | some (.p (.bl true)) => b env
  | some (.p (.bl false)) => some (.p (.bl false))
  | _ => none
def qOr (a b : En → Option DV) : En → Option DV := fun env => match a env with
  | some (.p (.bl true)) => some (.p (.bl true))
  | some (.p (.bl false)) => b env
  | _ => none
def qNot (a : En → Option DV) : En → Option DV := fun env => match a env with
  | some (.p (.bl c)) => some (.p (.bl (!c)))
  | _ => none
theorem sq_one {op} {q : En → Option DV} (h : SQ X a q) : SQ X (.BoolOp op [a] pos) q := ⟨pe_one h.pe⟩
theorem sq_and {qa qb : En → Option DV} (h : SQ X a qa) (h' : SQ X (.BoolOp .And (b :: rest) pos) qb) : SQ X (.BoolOp .And (a :: b :: rest) pos) (qAnd qa qb) := by
  refine ⟨pe_imp (pe_and h.pe h'.pe) ?_⟩
  rintro σ H Q ⟨env, F, B, d, hS, dj, hq, k⟩
  unfold qAnd at hq
  split at hq
  · rename_i h1
    refine ⟨env, F, B, _, hS, dj, h1, fun v H1 G C sm r gn cs => ?_⟩
    obtain ⟨rp, _, _⟩ := r.pure
    cases rp
    refine ⟨true, rfl, ?_⟩
    refine iteT ?_
    exact ⟨env, F, B, d, hS.same sm, dj, hq, fun v H2 G C sm2 r gn cs => k v H2 G C (sm.trans sm2) r (fun a q => sm.free (gn a q)) cs⟩
  · rename_i h1
    refine ⟨env, F, B, _, hS, dj, h1, fun v H1 G C sm r gn cs => ?_⟩
    obtain ⟨rp, _, _⟩ := r.pure
    cases rp
    refine ⟨false, rfl, ?_⟩
    refine iteF ?_
    cases hq
    exact k _ H1 [] [] sm (.p (.bl false)) (fun _ q => nomatch q) fun _ q => nomatch q
  · cases hq
theorem sq_or {qa qb : En → Option DV} (h : SQ X a qa) (h' : SQ X (.BoolOp .Or (b :: rest) pos) qb) : SQ X (.BoolOp .Or (a :: b :: rest) pos) (qOr qa qb) := by
  refine ⟨pe_imp (pe_or h.pe h'.pe) ?_⟩
  rintro σ H Q ⟨env, F, B, d, hS, dj, hq, k⟩
  unfold qOr at hq
  split at hq
  · rename_i h1
    refine ⟨env, F, B, _, hS, dj, h1, fun v H1 G C sm r gn cs => ?_⟩
    obtain ⟨rp, _, _⟩ := r.pure
    cases rp
    refine ⟨true, rfl, ?_⟩
    refine iteT ?_
    cases hq
    exact k _ H1 [] [] sm (.p (.bl true)) (fun _ q => nomatch q) fun _ q => nomatch q
  · rename_i h1
    refine ⟨env, F, B, _, hS, dj, h1, fun v H1 G C sm r gn cs => ?_⟩
    obtain ⟨rp, _, _⟩ := r.pure
    cases rp
    refine ⟨false, rfl, ?_⟩
    refine iteF ?_
    exact ⟨env, F, B, d, hS.same sm, dj, hq, fun v H2 G C sm2 r gn cs => k v H2 G C (sm.trans sm2) r (fun a q => sm.free (gn a q)) cs⟩
  · cases hq
theorem sq_not {q : En → Option DV} (h : SQ X a q) : SQ X (.UnaryOp .Not a pos) (qNot q) := by
  refine ⟨pe_imp (pe_not h.pe) ?_⟩
  rintro σ H Q ⟨env, F, B, d, hS, dj, hq, k⟩
  unfold qNot at hq
  split at hq
  · rename_i c h1
    refine ⟨env, F, B, _, hS, dj, h1, fun v H1 G C sm r gn cs => ?_⟩
    obtain ⟨rp, _, _⟩ := r.pure
    cases rp
    cases hq
    exact ⟨c, rfl, k _ H1 [] [] sm (.p (.bl _)) (fun _ q => nomatch q) fun _ q => nomatch q⟩
  · cases hq
end
/-- a if t else b -/
def eIf (t : En → Option (Bool × En)) (a b : En → Option (DV × En)) : En → Option (DV × En) := fun env => match t env with
  | some (true, e1) => a e1
  | some (false, e1) => b e1
  | none => none
theorem se_if {t : En → Option (Bool × En)} {fa fb : En → Option (DV × En)} (ht : ST X c t) (ha : SE X a fa) (hb : SE X b fb) : SE X (.IfExp c a b pos) (eIf t fa fb) := by
  refine ⟨pe_imp (pe_ifExp ht.pt ha.pe hb.pe) ?_⟩
  rintro σ H Q ⟨env, F, B, d, env', hS, dj, hf, k⟩
  unfold eIf at hf
  split at hf
  · rename_i e1 h1
    refine ⟨env, F, B, true, e1, hS, dj, h1, fun H1 F1 B1 k1 S1 n1 b1 => ?_⟩
    refine iteT ?_
    exact ⟨e1, F1, B1, d, env', S1, dj_of hS dj n1 b1, hf, fun v H2 F2 B2 G k2 S2 n2 b2 r g d => k v H2 F2 B2 G (k1.trans k2 n1) S2 (Nw.trans k1 n1 n2) (b1.trans b2) r (Nw.trans k1 n1 g) d⟩
  · rename_i e1 h1
    refine ⟨env, F, B, false, e1, hS, dj, h1, fun H1 F1 B1 k1 S1 n1 b1 => ?_⟩
    refine iteF ?_
    exact ⟨e1, F1, B1, d, env', S1, dj_of hS dj n1 b1, hf, fun v H2 F2 B2 G k2 S2 n2 b2 r g d => k v H2 F2 B2 G (k1.trans k2 n1) S2 (Nw.trans k1 n1 n2) (b1.trans b2) r (Nw.trans k1 n1 g) d⟩
  · cases hf
/-- .. quiet -/
structure SQT (X : Cx) (e : Expr) (t : En → Option Bool) : Prop where
  pt : PT X e (fun σ H Q => ∃ env F B b, StR X.K H σ env F B ∧ Disj F B ∧ t env = some b ∧ ∀ H', Same H H' → Q b H')
def qIf (t : En → Option Bool) (a b : En → Option DV) : En → Option DV := fun env => match t env with
  | some true => a env
  | some false => b env
  | none => none
def bQ (q : En → Option DV) : En → Option Bool := fun env => match q env with
  | some (.p (.bl b)) => some b
  | _ => none
theorem bq_q {q : En → Option DV} {σ : Sg} {H : Hp} {Q : Bool → Hp → Prop} (h : ∃ env F B b, StR X.K H σ env F B ∧ Disj F B ∧ bQ q env = some b ∧ ∀ H', Same H H' → Q b H') : rQ X.K q σ H fun x H1 => ∃ c, x = .bl c ∧ Q c H1 := by
  obtain ⟨env, F, B, b, hS, dj, ht, k⟩ := h
  unfold bQ at ht
  split at ht
  · rename_i b' hq
    cases ht
    refine ⟨env, F, B, _, hS, dj, hq, fun v H' G C sm r gn cs => ?_⟩
    obtain ⟨rp, _, _⟩ := r.pure
    cases rp
    exact ⟨b, rfl, k H' sm⟩
  · cases ht
theorem sqt_q {q : En → Option DV} (h : SQ X e q) (he : ∀ whole, isTrue e X.env whole = (do let v ← whole; standAt e.pos; holding [v] (truthy v)) := by intro _; rfl) : SQT X e (bQ q) :=
  ⟨pt_imp (pt_val h.pe he) fun _ _ _ => bq_q⟩
theorem sqt_cmp {op : CmpOp} {g : DV → DV → Option DV} {qa qb : En → Option DV} (h : SOp X (compareOp op) g) (ha : SQ X a qa) (hb : SQ X b qb) (hm : behindInMarks op b = false := by first | exact nobehind _ (by decide) (by decide) | rfl) : SQT X (.Compare a [op] [b] pos) (bQ (qOp g qa qb)) :=
  ⟨pt_imp (pt_cmpR h ha.pe hb.pe hm) fun σ H Q z => rq_op (fun x y H Q d1 G1 C1 d2 G2 C2 d r1 r2 e k => ⟨d1, G1, C1, d2, G2, C2, d, r1, r2, e, k⟩) (bq_q z)⟩
theorem sq_if {t : En → Option Bool} {qa qb : En → Option DV} (ht : SQT X c t) (ha : SQ X a qa) (hb : SQ X b qb) : SQ X (.IfExp c a b pos) (qIf t qa qb) := by
  refine ⟨pe_imp (pe_ifExp ht.pt ha.pe hb.pe) ?_⟩
  rintro σ H Q ⟨env, F, B, d, hS, dj, hf, k⟩
  unfold qIf at hf
  split at hf
  · rename_i h1
    refine ⟨env, F, B, true, hS, dj, h1, fun H1 sm => ?_⟩
    refine iteT ?_
    exact ⟨env, F, B, d, hS.same sm, dj, hf, fun v H2 G C sm2 r gn cs => k v H2 G C (sm.trans sm2) r (fun a q => sm.free (gn a q)) cs⟩
  · rename_i h1
    refine ⟨env, F, B, false, hS, dj, h1, fun H1 sm => ?_⟩
    refine iteF ?_
    exact ⟨env, F, B, d, hS.same sm, dj, hf, fun v H2 G C sm2 r gn cs => k v H2 G C (sm.trans sm2) r (fun a q => sm.free (gn a q)) cs⟩
  · cases hf
end
end Sm

set_option Elab.async false
set_option linter.all false
set_option maxRecDepth 100000
/-! S2: argument lists, displays, subscripts, slices, built-ins by name, defs. -/
namespace Sm
open PySem PySem.Spec PyProof.Rows L2
def pures : List DV → Option (List PV)
  | [] => some []
  | .p x :: r => (pures r).map fun xs => x :: xs
  | _ => none
section
variable {K : PySem.W.Frag} {H H' : Hp}
theorem pures_ok : ∀ {ds : List DV} {vs : List V} {xs : List PV} {G C : Fp}, RpAll K H vs ds G C → pures ds = some xs → RPs K H vs xs ∧ G = [] ∧ C = []
  | [], _, xs, _, _, h, e => by
    cases h
    cases e
    exact ⟨.nil, rfl, rfl⟩
  | d :: ds, _, xs, _, _, h, e => by
    cases h with
    | cons h1 h2 dj =>
      cases d with
      | p x =>
        obtain ⟨ys, e1, rfl⟩ := Option.map_eq_some_iff.mp e
        obtain ⟨r1, rfl, rfl⟩ := h1.pure
        obtain ⟨r2, rfl, rfl⟩ := pures_ok h2 e1
        exact ⟨.cons r1 r2, rfl, rfl⟩
      | _ => simp [pures] at e
theorem RpAll.length {ds : List DV} : ∀ {vs : List V} {G C : Fp}, RpAll K H vs ds G C → vs.length = ds.length := by
  induction ds with
  | nil => intro vs G C h; cases h; rfl
  | cons d ds ih => intro vs G C h; cases h with | cons a b c => simp [ih b]
theorem RpAll.get {ds : List DV} : ∀ {vs : List V} {G C : Fp}, RpAll K H vs ds G C → ∀ {i : Nat} {d : DV}, ds[i]? = some d → ∃ v G1 C1, vs[i]? = some v ∧ Rp K H v d G1 C1 ∧ (∀ a ∈ G1, a ∈ G) ∧ ∀ a ∈ C1, a ∈ C := by
  induction ds with
  | nil => intro vs G C h i d e; simp at e
  | cons d0 ds ih =>
    intro vs G C h i d e
    cases h with
    | cons a b c =>
      cases i with
      | zero =>
        simp at e; subst e
        exact ⟨_, _, _, rfl, a, fun a q => List.mem_append_left _ q, fun a q => List.mem_append_left _ q⟩
      | succ i =>
        obtain ⟨v, G1, C1, e1, r1, s1, s2⟩ := ih b (by simpa using e)
        exact ⟨v, G1, C1, by simpa using e1, r1, fun a q => List.mem_append_right _ (s1 a q), fun a q => List.mem_append_right _ (s2 a q)⟩
theorem RpAll.of_pure : ∀ {xs : List PV} {vs : List V}, RPs K H vs xs → RpAll K H vs (xs.map DV.p) [] []
  | [], _, h => by cases h; exact .nil
  | x :: xs, _, h => by
    cases h with
    | cons a b => exact .cons (F := []) (G := []) (B := []) (C := []) (.p a) (RpAll.of_pure b) fun _ q => nomatch q
theorem RpAll.append {ds es : List DV} : ∀ {vs ws : List V} {G G' C C' : Fp}, RpAll K H vs ds G C → RpAll K H ws es G' C' → Disj G G' → RpAll K H (vs ++ ws) (ds ++ es) (G ++ G') (C ++ C') := by
  induction ds with
  | nil => intro vs ws G G' C C' h g _; cases h; exact g
  | cons d ds ih =>
    intro vs ws G G' C C' h g dj
    cases h with
    | cons a b c =>
      rw [List.append_assoc, List.append_assoc]
      refine .cons a (ih b g fun x q => dj x (List.mem_append_right _ q)) fun x q z => ?_
      rcases List.mem_append.mp z with z | z
      · exact c x q z
      · exact dj x (List.mem_append_left _ q) z
end
def mkT (ds : List DV) : Option DV := if ds.length ≤ sizeLine then some (match pures ds with | some xs => .p (.tup xs) | none => .mt ds) else none
def mkL (ds : List DV) : Option DV := if ds.length ≤ sizeLine then some (match pures ds with | some xs => .lst xs | none => .ml ds) else none
section
variable {K : PySem.W.Frag} {H : Hp} {vs : List V} {ds : List DV} {d : DV} {G C : Fp} {p : Addr}
theorem mkT_ok (h : RpAll K H vs ds G C) (e : mkT ds = some d) (hp : H p = none) : vs.length ≤ sizeLine ∧ ∃ G' C', Rp K (upd H p (.tup vs)) (.ref p) d G' C' ∧ (∀ a ∈ G', a ∈ G) ∧ ∀ a ∈ C', a ∈ C := by
  unfold mkT at e
  split at e
  · rename_i hl
    refine ⟨by rw [h.length]; exact hl, ?_⟩
    have sm := same_upd (o := .tup vs) hp
    split at e
    · rename_i xs hx
      cases e
      obtain ⟨r, rfl, rfl⟩ := pures_ok h hx
      exact ⟨[], [], .p (.tup (.inl upd_same) (r.ext sm.tups)), fun _ q => q, fun _ q => q⟩
    · cases e
      exact ⟨G, C, .mt (.inl upd_same) (h.same sm), fun _ q => q, fun _ q => q⟩
  · cases e
theorem mkL_ok (h : RpAll K H vs ds G C) (e : mkL ds = some d) (hp : H p = none) : vs.length ≤ sizeLine ∧ ∃ G' C', Rp K (upd H p (.lst vs)) (.ref p) d G' C' ∧ (∀ a ∈ G', a = p ∨ a ∈ G) ∧ ∀ a ∈ C', a ∈ C := by
  unfold mkL at e
  split at e
  · rename_i hl
    refine ⟨by rw [h.length]; exact hl, ?_⟩
    have sm := same_upd (o := .lst vs) hp
    split at e
    · rename_i xs hx
      cases e
      obtain ⟨r, rfl, rfl⟩ := pures_ok h hx
      exact ⟨[p], [], .lst upd_same (r.ext sm.tups), fun _ q => .inl (by simpa using q), fun _ q => q⟩
    · cases e
      refine ⟨p :: G, C, .ml upd_same (h.same sm) (fun z => ?_) (fun z => ?_), fun a q => List.mem_cons.mp q, fun _ q => q⟩
      · obtain ⟨o, e, _⟩ := h.own p z
        rw [hp] at e; cases e
      · obtain ⟨o, e⟩ := h.lent p z
        rw [hp] at e; cases e
  · cases e
end

/-! ### argument lists, quiet -/
def rA (K : PySem.W.Frag) (q : En → Option (List DV)) : TA := fun σ H Q => ∃ env F B ds, StR K H σ env F B ∧ Disj F B ∧ q env = some ds ∧
  ∀ vs H' G C, Same H H' → RpAll K H' vs ds G C → (∀ a ∈ G, H a = none) → (∀ a ∈ C, a ∈ F ∨ a ∈ B) → Q vs H'
structure SA (X : Cx) (es : List Expr) (q : En → Option (List DV)) : Prop where
  pa : PA X es (rA X.K q)
def aNil : En → Option (List DV) := fun _ => some []
def aCons (q : En → Option DV) (r : En → Option (List DV)) : En → Option (List DV) := fun env => (q env).bind fun d => (r env).map fun ds => d :: ds
/-- what *x gives -/
def DV.items : DV → Option (List DV)
  | .p (.tup xs) => some (xs.map .p)
  | .lst xs => some (xs.map .p)
  | .ro xs => some (xs.map .p)
  | .fz xs => some (xs.map .p)
  | _ => none
def aStar (q : En → Option DV) (r : En → Option (List DV)) : En → Option (List DV) := fun env => (q env).bind fun d => d.items.bind fun xs => (r env).map fun ds => xs ++ ds
/-- effectful -/
def rAE (K : PySem.W.Frag) (f : En → Option (List DV × En)) : TA := fun σ H Q => ∃ env F B ds env', StR K H σ env F B ∧ Disj F B ∧ f env = some (ds, env') ∧
  ∀ vs H' F' B' G, Keep F H H' → StR K H' σ env' F' B' → Nw F H F' → Sb B B' → RpAll K H' vs ds G [] → Nw F H G → Disj G F' → Q vs H'
structure SAE (X : Cx) (es : List Expr) (f : En → Option (List DV × En)) : Prop where
  pa : PA X es (rAE X.K f)
def aeNil : En → Option (List DV × En) := fun env => some ([], env)
def aeCons (f : En → Option (DV × En)) (r : En → Option (List DV × En)) : En → Option (List DV × En) := fun env => (f env).bind fun x => (r x.2).map fun y => (x.1 :: y.1, y.2)
theorem items_ok {K : PySem.W.Frag} {H : Hp} {v : V} {d : DV} {xs : List DV} {G C : Fp} (r : Rp K H v d G C) (e : d.items = some xs) : ∃ p vs, v = .ref p ∧ (SqT K H p vs ∨ SqL K H p vs) ∧ RpAll K H vs xs [] [] := by
  cases r with
  | p r =>
    cases r with
    | tup t r => cases e; exact ⟨_, _, rfl, .inl t.seq, RpAll.of_pure r⟩
    | _ => simp [DV.items] at e
  | lst h r => cases e; exact ⟨_, _, rfl, .inr (.of h), RpAll.of_pure r⟩
  | ro h r => cases e; exact ⟨_, _, rfl, .inr (.of h), RpAll.of_pure r⟩
  | fz h r => cases e; exact ⟨_, _, rfl, .inr (.inl (.inr ⟨_, h⟩)), RpAll.of_pure r⟩
  | fk h r => cases e; exact ⟨_, _, rfl, .inr (h.seq H), RpAll.of_pure r⟩
  | _ => simp [DV.items] at e
section
variable {X : Cx} {e a b c : Expr} {es : List Expr} {pos : Pos}
theorem sa_nil : SA X [] aNil := by
  refine ⟨pa_imp pa_nil ?_⟩
  rintro σ H Q ⟨env, F, B, ds, hS, dj, hq, k⟩
  cases hq
  exact k [] H [] [] (Same.refl H) .nil (fun _ q => nomatch q) fun _ q => nomatch q
theorem sa_cons {q : En → Option DV} {r : En → Option (List DV)} (h : SQ X e q) (g : SA X es r) (hs : starEach (e :: es) X.env = (false, eval e X.env) :: starEach es X.env := by rfl) : SA X (e :: es) (aCons q r) := by
  refine ⟨pa_imp (pa_cons h.pe g.pa hs) ?_⟩
  rintro σ H Q ⟨env, F, B, ds, hS, dj, hq, k⟩
  obtain ⟨d, h1, hq⟩ := Option.bind_eq_some_iff.mp hq
  obtain ⟨ds', h2, rfl⟩ := Option.map_eq_some_iff.mp hq
  refine ⟨env, F, B, d, hS, dj, h1, fun v H1 G1 C1 sm1 r1 n1 c1 => ?_⟩
  refine ⟨env, F, B, ds', hS.same sm1, dj, h2, fun vs H2 G2 C2 sm2 r2 n2 c2 => ?_⟩
  refine k (v :: vs) H2 (G1 ++ G2) (C1 ++ C2) (sm1.trans sm2) (.cons (r1.same sm2) r2 fun a q z => ?_) (fun a q => ?_) fun a q => ?_
  · obtain ⟨o, e, _⟩ := r1.own a q
    rw [n2 a z] at e; cases e
  · exact (List.mem_append.mp q).elim (n1 a) fun z => sm1.free (n2 a z)
  · exact (List.mem_append.mp q).elim (c1 a) (c2 a)
theorem sa_star {q : En → Option DV} {r : En → Option (List DV)} (h : SQ X e q) (g : SA X es r) (hs : starEach (.Starred e pos :: es) X.env = (true, eval e X.env) :: starEach es X.env := by rfl) : SA X (.Starred e pos :: es) (aStar q r) := by
  refine ⟨pa_imp (StX.pa_star h.pe g.pa hs) ?_⟩
  rintro σ H Q ⟨env, F, B, ds, hS, dj, hq, k⟩
  obtain ⟨d, h1, hq⟩ := Option.bind_eq_some_iff.mp hq
  obtain ⟨xs, hx, hq⟩ := Option.bind_eq_some_iff.mp hq
  obtain ⟨ds', h2, rfl⟩ := Option.map_eq_some_iff.mp hq
  refine ⟨env, F, B, d, hS, dj, h1, fun v H1 G1 C1 sm1 r1 n1 c1 => ?_⟩
  obtain ⟨p, ws, rfl, hsq, hr⟩ := items_ok r1 hx
  refine ⟨p, ws, rfl, hsq, ?_⟩
  refine ⟨env, F, B, ds', hS.same sm1, dj, h2, fun vs H2 G2 C2 sm2 r2 n2 c2 => ?_⟩
  refine k (ws ++ vs) H2 G2 C2 (sm1.trans sm2) ?_ (fun a q => sm1.free (n2 a q)) c2
  exact (hr.same sm2).append r2 fun _ q => nomatch q
theorem sae_nil : SAE X [] aeNil := by
  refine ⟨pa_imp pa_nil ?_⟩
  rintro σ H Q ⟨env, F, B, ds, env', hS, dj, hq, k⟩
  cases hq
  exact k [] H F B [] Keep.refl hS Nw.self Sb.self .nil (fun _ q => nomatch q) fun _ q => nomatch q
theorem sae_cons {f : En → Option (DV × En)} {r : En → Option (List DV × En)} (h : SE X e f) (g : SAE X es r) (hs : starEach (e :: es) X.env = (false, eval e X.env) :: starEach es X.env := by rfl) : SAE X (e :: es) (aeCons f r) := by
  refine ⟨pa_imp (pa_cons h.pe g.pa hs) ?_⟩
  rintro σ H Q ⟨env, F, B, ds, env', hS, dj, hq, k⟩
  obtain ⟨⟨d, env1⟩, h1, hq⟩ := Option.bind_eq_some_iff.mp hq
  obtain ⟨⟨ds', env2⟩, h2, h3⟩ := Option.map_eq_some_iff.mp hq
  cases h3
  refine ⟨env, F, B, d, env1, hS, dj, h1, fun v H1 F1 B1 G1 k1 S1 n1 b1 r1 g1 d1 => ?_⟩
  refine ⟨env1, F1, B1, ds', _, S1, dj_of hS dj n1 b1, h2, fun vs H2 F2 B2 G2 k2 S2 n2 b2 r2 g2 d2 => ?_⟩
  have gd : ∀ x ∈ G1, ∃ o, H1 x = some o := fun x q => let ⟨o, e, _⟩ := r1.own x q; ⟨o, e⟩
  refine k (v :: vs) H2 F2 B2 (G1 ++ G2) (k1.trans k2 n1) S2 (Nw.trans k1 n1 n2) (b1.trans b2) ?_ (fun x q => ?_) fun x q z => ?_
  · refine .cons (B := []) (C := []) (r1.keep k2 (fun x q => S1.own x q) (fun x q z => d1 x z q) fun _ _ z => nomatch z) r2 fun x q z => ?_
    rcases g2 x z with z | z
    · exact d1 x q z
    · obtain ⟨o, e⟩ := gd x q
      rw [z] at e; cases e
  · exact (List.mem_append.mp q).elim (g1 x) (Nw.trans k1 n1 g2 x)
  · rcases List.mem_append.mp q with q | q
    · rcases n2 x z with z | z
      · exact d1 x q z
      · obtain ⟨o, e⟩ := gd x q
        rw [z] at e; cases e
    · exact d2 x q z

/-! ### displays -/
def qMk (mk : List DV → Option DV) (q : En → Option (List DV)) : En → Option DV := fun env => (q env).bind mk
def eMk (mk : List DV → Option DV) (f : En → Option (List DV × En)) : En → Option (DV × En) := fun env => (f env).bind fun x => (mk x.1).map fun d => (d, x.2)
theorem sq_tup {k : Nat} {q : En → Option (List DV)} (h : SA X es q) : SQ X (.Tuple es k pos) (qMk mkT q) := by
  refine ⟨pe_imp (pe_tup h.pa) ?_⟩
  rintro σ H Q ⟨env, F, B, d, hS, dj, hq, k⟩
  obtain ⟨ds, h1, h2⟩ := Option.bind_eq_some_iff.mp hq
  refine ⟨env, F, B, ds, hS, dj, h1, fun vs H1 G C sm r n c => ⟨?_, fun p hp => ?_⟩⟩
  · unfold mkT at h2
    split at h2
    · rename_i hl; rw [r.length]; exact hl
    · cases h2
  · obtain ⟨_, G', C', r', s1, s2⟩ := mkT_ok r h2 hp
    exact k _ _ G' C' (sm.trans (same_upd hp)) r' (fun a q => n a (s1 a q)) fun a q => c a (s2 a q)
theorem sq_lst {q : En → Option (List DV)} (h : SA X es q) : SQ X (.List es pos) (qMk mkL q) := by
  refine ⟨pe_imp (pe_lst h.pa) ?_⟩
  rintro σ H Q ⟨env, F, B, d, hS, dj, hq, k⟩
  obtain ⟨ds, h1, h2⟩ := Option.bind_eq_some_iff.mp hq
  refine ⟨env, F, B, ds, hS, dj, h1, fun vs H1 G C sm r n c => ⟨?_, fun p hp => ?_⟩⟩
  · unfold mkL at h2
    split at h2
    · rename_i hl; rw [r.length]; exact hl
    · cases h2
  · obtain ⟨_, G', C', r', s1, s2⟩ := mkL_ok r h2 hp
    exact k _ _ G' C' (sm.trans (same_upd hp)) r' (fun a q => (s1 a q).elim (fun e => by rw [e]; exact sm.free hp) (n a)) fun a q => c a (s2 a q)
theorem nil_of_sub {C : Fp} (h : ∀ a ∈ C, a ∈ ([] : Fp)) : C = [] := by
  cases C with
  | nil => rfl
  | cons a r => exact absurd (h a (by simp)) (by simp)
theorem nw_upd {F : Fp} {H H1 : Hp} (k : Keep F H H1) {p : Addr} (hp : H1 p = none) : p ∈ F ∨ H p = none := by
  by_cases hx : p ∈ F
  · exact .inl hx
  · cases e : H p with
    | none => exact .inr rfl
    | some o => rw [k p o e hx] at hp; cases hp
theorem se_tup {k : Nat} {f : En → Option (List DV × En)} (h : SAE X es f) : SE X (.Tuple es k pos) (eMk mkT f) := by
  refine ⟨pe_imp (pe_tup h.pa) ?_⟩
  rintro σ H Q ⟨env, F, B, d, env', hS, dj, hq, k⟩
  obtain ⟨⟨ds, env1⟩, h1, hq⟩ := Option.bind_eq_some_iff.mp hq
  obtain ⟨d', h2, h3⟩ := Option.map_eq_some_iff.mp hq
  cases h3
  refine ⟨env, F, B, ds, _, hS, dj, h1, fun vs H1 F1 B1 G k1 S1 n1 b1 r g1 d1 => ⟨?_, fun p hp => ?_⟩⟩
  · unfold mkT at h2
    split at h2
    · rename_i hl; rw [r.length]; exact hl
    · cases h2
  · obtain ⟨_, G', C', r', s1, s2⟩ := mkT_ok r h2 hp
    rw [nil_of_sub s2] at r'
    have sm := same_upd (o := .tup vs) hp
    exact k _ _ F1 B1 G' (k1.trans (F1 := F) sm.keep fun x q => .inl q) (S1.same sm) n1 b1 r' (fun a q => g1 a (s1 a q)) fun a q z => d1 a (s1 a q) z
theorem se_lst {f : En → Option (List DV × En)} (h : SAE X es f) : SE X (.List es pos) (eMk mkL f) := by
  refine ⟨pe_imp (pe_lst h.pa) ?_⟩
  rintro σ H Q ⟨env, F, B, d, env', hS, dj, hq, k⟩
  obtain ⟨⟨ds, env1⟩, h1, hq⟩ := Option.bind_eq_some_iff.mp hq
  obtain ⟨d', h2, h3⟩ := Option.map_eq_some_iff.mp hq
  cases h3
  refine ⟨env, F, B, ds, _, hS, dj, h1, fun vs H1 F1 B1 G k1 S1 n1 b1 r g1 d1 => ⟨?_, fun p hp => ?_⟩⟩
  · unfold mkL at h2
    split at h2
    · rename_i hl; rw [r.length]; exact hl
    · cases h2
  · obtain ⟨_, G', C', r', s1, s2⟩ := mkL_ok r h2 hp
    rw [nil_of_sub s2] at r'
    have sm := same_upd (o := .lst vs) hp
    refine k _ _ F1 B1 G' (k1.trans (F1 := F) sm.keep fun x q => .inl q) (S1.same sm) n1 b1 r' (fun a q => (s1 a q).elim (fun e => by rw [e]; exact nw_upd k1 hp) (g1 a)) fun a q z => ?_
    rcases s1 a q with e | q
    · obtain ⟨o, ho, _⟩ := S1.own a z
      rw [e, hp] at ho; cases ho
    · exact d1 a q z

/-! ### subscripts -/
def dIx (d i : DV) : Option DV := match i with
  | .p (.int k) => match d with
    | .p (.tup xs) => (atI xs k).map .p
    | .lst xs => (atI xs k).map .p
    | .ro xs => (atI xs k).map .p
    | .fz xs => (atI xs k).map .p
    | .ml ds => atI ds k
    | .mr ds => atI ds k
    | .mt ds => atI ds k
    | .p (.str z) => if z.length ≤ sizeLine then (atI z.cps.toList k).map fun c => .p (.str ⟨#[c]⟩) else none
    | _ => none
  | _ => none
theorem atI_map_ix {α β : Type} {xs : List α} {ys : List β} (hl : xs.length = ys.length) {k : Int} {y : β} (e : atI ys k = some y) : ∃ j : Nat, ys[j]? = some y ∧ ∀ x : α, xs[j]? = some x → atI xs k = some x := by
  unfold atI at e
  obtain ⟨j, h1, h2⟩ := Option.bind_eq_some_iff.mp e
  refine ⟨j, h2, fun x hx => ?_⟩
  unfold atI
  rw [hl, h1]
  exact hx
theorem atI_rps {K : PySem.W.Frag} {H : Hp} {vs : List V} {xs : List PV} (r : RPs K H vs xs) {k : Int} {x : PV} (e : atI xs k = some x) : ∃ v, atI vs k = some v ∧ RP K H v x := by
  obtain ⟨j, h1, h2⟩ := atI_map_ix r.length e
  obtain ⟨v, h3, h4⟩ := r.get h1
  exact ⟨v, h2 v h3, h4⟩
theorem atI_rpa {K : PySem.W.Frag} {H : Hp} {vs : List V} {xs : List DV} {G C : Fp} (r : RpAll K H vs xs G C) {k : Int} {x : DV} (e : atI xs k = some x) : ∃ v G1 C1, atI vs k = some v ∧ Rp K H v x G1 C1 ∧ (∀ a ∈ G1, a ∈ G) ∧ ∀ a ∈ C1, a ∈ C := by
  obtain ⟨j, h1, h2⟩ := atI_map_ix r.length e
  obtain ⟨v, G1, C1, h3, h4, h5, h6⟩ := r.get h1
  exact ⟨v, G1, C1, h2 v h3, h4, h5, h6⟩
theorem dIx_ok {K : PySem.W.Frag} {H : Hp} {x y : V} {d1 d2 d : DV} {G1 C1 G2 C2 : Fp} {Q : VK} (r1 : Rp K H x d1 G1 C1) (r2 : Rp K H y d2 G2 C2) (e : dIx d1 d2 = some d)
    (k : ∀ v G C, Rp K H v d G C → (∀ a ∈ G, a ∈ G1) → (∀ a ∈ C, a ∈ C1) → Q v H) : rIx K x y H Q := by
  unfold dIx at e
  split at e
  · rename_i i
    obtain ⟨rp, _, _⟩ := r2.pure
    cases rp
    cases r1 with
    | p r1 =>
      cases r1 with
      | tup t r =>
        obtain ⟨z, h1, rfl⟩ := Option.map_eq_some_iff.mp e
        obtain ⟨v, h2, h3⟩ := atI_rps r h1
        exact .inr (.inl ⟨_, _, i, v, rfl, rfl, t.seq, h2, k v [] [] (.p h3) (fun _ q => nomatch q) fun _ q => nomatch q⟩)
      | str z =>
        simp only at e
        split at e
        · rename_i hl
          obtain ⟨c, h1, rfl⟩ := Option.map_eq_some_iff.mp e
          exact .inr (.inr ⟨z, i, c, rfl, rfl, hl, h1, k _ [] [] (.p (.str _)) (fun _ q => nomatch q) fun _ q => nomatch q⟩)
        · cases e
      | _ => cases e
    | lst h r =>
      obtain ⟨z, h1, rfl⟩ := Option.map_eq_some_iff.mp e
      obtain ⟨v, h2, h3⟩ := atI_rps r h1
      exact .inl ⟨_, _, i, v, rfl, rfl, .of h, h2, k v [] [] (.p h3) (fun _ q => nomatch q) fun _ q => nomatch q⟩
    | fz h r =>
      obtain ⟨z, h1, rfl⟩ := Option.map_eq_some_iff.mp e
      obtain ⟨v, h2, h3⟩ := atI_rps r h1
      exact .inl ⟨_, _, i, v, rfl, rfl, .inl (.inr ⟨_, h⟩), h2, k v [] [] (.p h3) (fun _ q => nomatch q) fun _ q => nomatch q⟩
    | fk h r =>
      obtain ⟨z, h1, rfl⟩ := Option.map_eq_some_iff.mp e
      obtain ⟨v, h2, h3⟩ := atI_rps r h1
      exact .inl ⟨_, _, i, v, rfl, rfl, h.seq H, h2, k v [] [] (.p h3) (fun _ q => nomatch q) fun _ q => nomatch q⟩
    | ro h r =>
      obtain ⟨z, h1, rfl⟩ := Option.map_eq_some_iff.mp e
      obtain ⟨v, h2, h3⟩ := atI_rps r h1
      exact .inl ⟨_, _, i, v, rfl, rfl, .of h, h2, k v [] [] (.p h3) (fun _ q => nomatch q) fun _ q => nomatch q⟩
    | ml h r n m =>
      obtain ⟨v, G3, C3, h2, h3, h4, h5⟩ := atI_rpa r e
      exact .inl ⟨_, _, i, v, rfl, rfl, .of h, h2, k v G3 C3 h3 (fun a q => List.mem_cons_of_mem _ (h4 a q)) h5⟩
    | mr h r =>
      obtain ⟨v, G3, C3, h2, h3, h4, h5⟩ := atI_rpa r e
      exact .inl ⟨_, _, i, v, rfl, rfl, .of h, h2, k v G3 C3 h3 h4 fun a q => List.mem_cons_of_mem _ (h5 a q)⟩
    | mt t r =>
      obtain ⟨v, G3, C3, h2, h3, h4, h5⟩ := atI_rpa r e
      exact .inr (.inl ⟨_, _, i, v, rfl, rfl, t.seq, h2, k v G3 C3 h3 h4 h5⟩)
    | _ => cases e
  · cases e
theorem sq_ix {qa qb : En → Option DV} (ha : SQ X a qa) (hb : SQ X b qb) (hs : PlainIx b := by intro _ _; rfl) : SQ X (.Subscript a b pos) (qOp dIx qa qb) := by
  refine ⟨pe_imp (pe_ix ix_seq ha.pe hb.pe hs) ?_⟩
  rintro σ H Q ⟨env, F, B, d, hS, dj, hq, k⟩
  obtain ⟨d1, h1, hq⟩ := Option.bind_eq_some_iff.mp hq
  obtain ⟨d2, h2, hq⟩ := Option.bind_eq_some_iff.mp hq
  refine ⟨env, F, B, d1, hS, dj, h1, fun v H1 G1 C1 sm1 r1 n1 c1 => ?_⟩
  refine ⟨env, F, B, d2, hS.same sm1, dj, h2, fun u H2 G2 C2 sm2 r2 n2 c2 => ?_⟩
  exact dIx_ok (r1.same sm2) r2 hq fun w G C r s1 s2 => k w H2 G C (sm1.trans sm2) r (fun x q => n1 x (s1 x q)) fun x q => c1 x (s2 x q)
/-- some[e], e with an effect -/
def eIxN (i : Nat) (f : En → Option (DV × En)) : En → Option (DV × En) := fun env => (env.g i).bind fun _ => (f env).bind fun y => (y.2.g i).bind fun d => (dIx d.lend y.1).bind fun r => if r.owned then some (r, y.2) else none
theorem se_ixN (i : Nat) {x : Str} {p : Pos} {f : En → Option (DV × En)} (hb : SE X b f) (hN : X.N[i]? = some x := by rfl) (hv : Vis X.env.scope x := by first | exact Or.inl rfl | exact Or.inr (Or.inl rfl) | exact Or.inr (Or.inr rfl)) (hs : PlainIx b := by intro _ _; rfl) (hd : (x == ("__debug__" : Str)) = false := by decide)
    (hcd : (x == ("__classdict__" : Str)) = false := by decide) : SE X (.Subscript (.Name x p) b pos) (eIxN i f) := by
  refine ⟨pe_imp (pe_ix ix_seq (pe_var hN hv hd hcd) hb.pe hs) ?_⟩
  rintro σ H Q ⟨env, F, B, d, env', hS, dj, hf, k⟩
  obtain ⟨d0, h0, hf⟩ := Option.bind_eq_some_iff.mp hf
  obtain ⟨⟨d2, env2⟩, h1, hf⟩ := Option.bind_eq_some_iff.mp hf
  obtain ⟨d1, h2, hf⟩ := Option.bind_eq_some_iff.mp hf
  obtain ⟨d3, h3, hf⟩ := Option.bind_eq_some_iff.mp hf
  by_cases ho : d3.owned = true
  · rw [if_pos ho] at hf
    cases hf
    obtain ⟨v, _, _, hv1, _⟩ := hS.get (En.g_some h0)
    refine ⟨v, hv1, env, F, B, d2, _, hS, dj, h1, fun u H2 F2 B2 G2 k2 S2 n2 b2 r2 g2 dj2 => ?_⟩
    obtain ⟨v', G, C, e1, r1, s1, s2⟩ := S2.get (En.g_some h2)
    rw [hv1] at e1
    cases e1
    obtain ⟨C', r3, s3⟩ := r1.lend
    refine dIx_ok r3 r2 h3 fun w G4 C4 r4 t1 t2 => ?_
    have hC : C4 = [] := r4.of_owned ho
    have hG : G4 = [] := nil_of_sub t1
    subst hC hG
    exact k w H2 F2 B2 [] k2 S2 n2 b2 r4 (fun _ q => nomatch q) fun _ q => nomatch q
  · rw [if_neg ho] at hf; cases hf
end
end Sm

set_option Elab.async false
set_option linter.all false
set_option maxRecDepth 100000
/-! S3: slices, built-ins called by name, isinstance, list(range(..)). -/
namespace Sm
open PySem PySem.Spec PyProof.Rows L2
def DV.seq : DV → Option (List PV)
  | .p (.tup xs) => some xs
  | .lst xs => some xs
  | .ro xs => some xs
  | .fz xs => some xs
  | _ => none
theorem seq_ok {K : PySem.W.Frag} {H : Hp} {v : V} {d : DV} {xs : List PV} {G C : Fp} (r : Rp K H v d G C) (e : d.seq = some xs) : ∃ p vs, v = .ref p ∧ (SqT K H p vs ∨ SqL K H p vs) ∧ RPs K H vs xs ∧ ((d = .p (.tup xs) ∧ SqT K H p vs) ∨ SqL K H p vs) := by
  cases r with
  | p r =>
    cases r with
    | tup t r => cases e; exact ⟨_, _, rfl, .inl t.seq, r, .inl ⟨rfl, t.seq⟩⟩
    | _ => simp [DV.seq] at e
  | lst h r => cases e; exact ⟨_, _, rfl, .inr (.of h), r, .inr (.of h)⟩
  | ro h r => cases e; exact ⟨_, _, rfl, .inr (.of h), r, .inr (.of h)⟩
  | fz h r => cases e; exact ⟨_, _, rfl, .inr (.inl (.inr ⟨_, h⟩)), r, .inr (.inl (.inr ⟨_, h⟩))⟩
  | fk h r => cases e; exact ⟨_, _, rfl, .inr (h.seq H), r, .inr (h.seq H)⟩
  | _ => simp [DV.seq] at e
def intsOf : List PV → Option (List Int)
  | [] => some []
  | .int i :: r => (intsOf r).map fun xs => i :: xs
  | _ => none
def boolsOf : List PV → Option (List Bool)
  | [] => some []
  | .bl i :: r => (boolsOf r).map fun xs => i :: xs
  | _ => none
theorem intsOf_eq : ∀ {xs : List PV} {ns : List Int}, intsOf xs = some ns → xs = ns.map PV.int
  | [], _, e => by cases e; rfl
  | x :: xs, ns, e => by
    cases x with
    | int i =>
      obtain ⟨ms, h, rfl⟩ := Option.map_eq_some_iff.mp e
      rw [intsOf_eq h]; rfl
    | _ => simp [intsOf] at e
theorem boolsOf_eq : ∀ {xs : List PV} {ns : List Bool}, boolsOf xs = some ns → xs = ns.map PV.bl
  | [], _, e => by cases e; rfl
  | x :: xs, ns, e => by
    cases x with
    | bl i =>
      obtain ⟨ms, h, rfl⟩ := Option.map_eq_some_iff.mp e
      rw [boolsOf_eq h]; rfl
    | _ => simp [boolsOf] at e
@[simp] theorem intsOf_map (ns : List Int) : intsOf (ns.map PV.int) = some ns := by
  induction ns with
  | nil => rfl
  | cons n ns ih => simp [intsOf, ih]
@[simp] theorem boolsOf_map (ns : List Bool) : boolsOf (ns.map PV.bl) = some ns := by
  induction ns with
  | nil => rfl
  | cons n ns ih => simp [boolsOf, ih]
@[simp] theorem pures_map (xs : List PV) : pures (xs.map DV.p) = some xs := by
  induction xs with
  | nil => rfl
  | cons n ns ih => simp [pures, ih]

/-! ### slices -/
def cutL {α : Type} (xs : List α) (lo hi : Option Int) : List α := (xs.drop (HT.sIx xs.length 0 lo)).take (HT.sIx xs.length xs.length hi - HT.sIx xs.length 0 lo)
theorem RPs.cut {K : PySem.W.Frag} {H : Hp} {vs : List V} {xs : List PV} (r : RPs K H vs xs) (lo hi : Option Int) : RPs K H (cutV vs lo hi) (cutL xs lo hi) := by
  unfold cutV cutL
  rw [r.length]
  exact (r.drop _).take _
def rO (K : PySem.W.Frag) (q : En → Option (Option Int)) : TO := fun σ H Q => ∃ env F B o, StR K H σ env F B ∧ Disj F B ∧ q env = some o ∧ ∀ H', Same H H' → Q o H'
structure SPO (X : Cx) (e : Option Expr) (q : En → Option (Option Int)) : Prop where
  po : PO X e (rO X.K q)
def oNone : En → Option (Option Int) := fun _ => some none
def oSome (q : En → Option DV) : En → Option (Option Int) := fun env => match q env with
  | some (.p (.int i)) => some (some i)
  | _ => none
def dSl (d : DV) (lo hi : Option Int) : Option DV := match d with
  | .p (.tup xs) => some (.p (.tup (cutL xs lo hi)))
  | .lst xs => some (.lst (cutL xs lo hi))
  | .ro xs => some (.lst (cutL xs lo hi))
  | .fz xs => some (.lst (cutL xs lo hi))
  | .p (.str z) => if z.length ≤ sizeLine then some (.p (.str (cutS z lo hi))) else none
  | .mt ds => some (match pures (cutL ds lo hi) with | some xs => .p (.tup xs) | none => .mt (cutL ds lo hi))
  | _ => none
theorem RpAll.take {K : PySem.W.Frag} {H : Hp} {ds : List DV} : ∀ {vs : List V} {G C : Fp}, RpAll K H vs ds G C → ∀ n, ∃ G' C', RpAll K H (vs.take n) (ds.take n) G' C' ∧ (∀ a ∈ G', a ∈ G) ∧ ∀ a ∈ C', a ∈ C := by
  induction ds with
  | nil => intro vs G C h n; cases h; exact ⟨[], [], by simpa using .nil, (fun _ q => nomatch q), (fun _ q => nomatch q)⟩
  | cons d ds ih =>
    intro vs G C h n
    cases n with
    | zero => exact ⟨[], [], by simpa using .nil, (fun _ q => nomatch q), (fun _ q => nomatch q)⟩
    | succ n =>
      cases h with
      | cons a b c =>
        obtain ⟨G', C', r, s1, s2⟩ := ih b n
        exact ⟨_, _, .cons a r fun x q z => c x q (s1 x z), fun x q => (List.mem_append.mp q).elim (List.mem_append_left _) fun z => List.mem_append_right _ (s1 x z), fun x q => (List.mem_append.mp q).elim (List.mem_append_left _) fun z => List.mem_append_right _ (s2 x z)⟩
theorem RpAll.drop {K : PySem.W.Frag} {H : Hp} {ds : List DV} : ∀ {vs : List V} {G C : Fp}, RpAll K H vs ds G C → ∀ n, ∃ G' C', RpAll K H (vs.drop n) (ds.drop n) G' C' ∧ (∀ a ∈ G', a ∈ G) ∧ ∀ a ∈ C', a ∈ C := by
  induction ds with
  | nil => intro vs G C h n; cases h; exact ⟨[], [], by simpa using .nil, (fun _ q => nomatch q), (fun _ q => nomatch q)⟩
  | cons d ds ih =>
    intro vs G C h n
    cases n with
    | zero => exact ⟨G, C, h, fun _ q => q, fun _ q => q⟩
    | succ n =>
      cases h with
      | cons a b c =>
        obtain ⟨G', C', r, s1, s2⟩ := ih b n
        exact ⟨G', C', r, fun x q => List.mem_append_right _ (s1 x q), fun x q => List.mem_append_right _ (s2 x q)⟩
theorem RpAll.cut {K : PySem.W.Frag} {H : Hp} {ds : List DV} {vs : List V} {G C : Fp} (r : RpAll K H vs ds G C) (lo hi : Option Int) : ∃ G' C', RpAll K H (cutV vs lo hi) (cutL ds lo hi) G' C' ∧ (∀ a ∈ G', a ∈ G) ∧ ∀ a ∈ C', a ∈ C := by
  unfold cutV cutL
  rw [r.length]
  obtain ⟨G1, C1, r1, s1, s2⟩ := r.drop (HT.sIx ds.length 0 lo)
  obtain ⟨G2, C2, r2, t1, t2⟩ := r1.take (HT.sIx ds.length ds.length hi - HT.sIx ds.length 0 lo)
  exact ⟨G2, C2, r2, fun a q => s1 a (t1 a q), fun a q => s2 a (t2 a q)⟩
def qSl (q : En → Option DV) (lo hi : En → Option (Option Int)) : En → Option DV := fun env => (q env).bind fun d => (lo env).bind fun l => (hi env).bind fun h => dSl d l h
section
variable {X : Cx} {e a b c : Expr} {es : List Expr} {pos p2 : Pos}
theorem po_imp {e : Option Expr} {t t' : TO} (h : PO X e t) (i : ∀ σ H Q, t' σ H Q → t σ H Q) : PO X e t' := ⟨fun pins s σ H Q I hq => h.run pins s σ H Q I (i _ _ _ hq)⟩
theorem spo_none : SPO X none oNone := by
  refine ⟨po_imp po_none ?_⟩
  rintro σ H Q ⟨env, F, B, o, hS, dj, hq, k⟩
  cases hq
  exact k H (Same.refl H)
theorem spo_some {q : En → Option DV} (h : SQ X e q) : SPO X (some e) (oSome q) := by
  refine ⟨po_imp (po_some h.pe) ?_⟩
  rintro σ H Q ⟨env, F, B, o, hS, dj, hq, k⟩
  unfold oSome at hq
  split at hq
  · rename_i i hi
    cases hq
    refine ⟨env, F, B, _, hS, dj, hi, fun v H' G C sm r n c => ?_⟩
    obtain ⟨rp, _, _⟩ := r.pure
    cases rp
    exact ⟨i, rfl, k H' sm⟩
  · cases hq
def rSlAll (K : PySem.W.Frag) : V → Option Int → Option Int → Hp → VK → Prop := fun x lo hi H Q => rSlL K x lo hi H Q ∨ rSlA K x lo hi H Q ∨ rSlS x lo hi H Q
theorem sl_all : SlR X (rSlAll X.K) := sl_list.or (sl_tupA.or sl_str)
theorem sq_sl {q : En → Option DV} {ql qh : En → Option (Option Int)} {lo hi : Option Expr} (h : SQ X e q) (hl : SPO X lo ql) (hh : SPO X hi qh) : SQ X (.Subscript e (.Slice lo hi none p2) pos) (qSl q ql qh) := by
  refine ⟨pe_imp (pe_slice sl_all h.pe hl.po hh.po) ?_⟩
  rintro σ H Q ⟨env, F, B, d, hS, dj, hq, k⟩
  obtain ⟨d1, h1, hq⟩ := Option.bind_eq_some_iff.mp hq
  obtain ⟨l, h2, hq⟩ := Option.bind_eq_some_iff.mp hq
  obtain ⟨u, h3, hq⟩ := Option.bind_eq_some_iff.mp hq
  refine ⟨env, F, B, d1, hS, dj, h1, fun v H1 G1 C1 sm1 r1 n1 c1 => ?_⟩
  refine ⟨env, F, B, l, hS.same sm1, dj, h2, fun H2 sm2 => ?_⟩
  refine ⟨env, F, B, u, hS.same (sm1.trans sm2), dj, h3, fun H3 sm3 => ?_⟩
  have sm : Same H H3 := (sm1.trans sm2).trans sm3
  have r3 := r1.same (sm2.trans sm3)
  cases r3 with
  | p r =>
    cases r with
    | @tup a0 ws ys t r =>
      cases hq
      refine .inr (.inl ⟨_, _, rfl, t.seq, fun z => ?_, fun z p hp => ?_⟩)
      · refine k _ H3 [] [] sm (.p (.tup t ?_)) (fun _ q => nomatch q) fun _ q => nomatch q
        have q0 := r.cut l u
        have e : cutV ws l u = ws := by
          unfold cutV
          rw [z.1, z.2]
          exact List.take_of_length_le (by simp)
        rw [e] at q0
        exact q0
      · have s4 := same_upd (o := .tup (cutV ws l u)) hp
        exact k _ _ [] [] (sm.trans s4) (.p (.tup (.inl upd_same) ((r.cut l u).ext s4.tups))) (fun _ q => nomatch q) fun _ q => nomatch q
    | str z =>
      simp only [dSl] at hq
      split at hq
      · rename_i hl
        cases hq
        exact .inr (.inr ⟨z, rfl, hl, k _ H3 [] [] sm (.p (.str _)) (fun _ q => nomatch q) fun _ q => nomatch q⟩)
      · cases hq
    | _ => cases hq
  | @mt a0 ws ys F0 B0 t r =>
    have hq : some (match pures (cutL ys l u) with | some xs => DV.p (.tup xs) | none => .mt (cutL ys l u)) = some d := hq
    obtain ⟨G', C', rc, s1, s2⟩ := r.cut l u
    refine .inr (.inl ⟨_, _, rfl, t.seq, fun z => ?_, fun z p hp => ?_⟩)
    · have e : cutV ws l u = ws := by
        unfold cutV
        rw [z.1, z.2]
        exact List.take_of_length_le (by simp)
      rw [e] at rc
      split at hq
      · rename_i xs hx
        cases hq
        obtain ⟨rp, rfl, rfl⟩ := pures_ok rc hx
        exact k _ H3 [] [] sm (.p (.tup t rp)) (fun _ q => nomatch q) fun _ q => nomatch q
      · cases hq
        exact k _ H3 G' C' sm (.mt t rc) (fun a q => n1 a (s1 a q)) fun a q => c1 a (s2 a q)
    · have s4 := same_upd (o := .tup (cutV ws l u)) hp
      split at hq
      · rename_i xs hx
        cases hq
        obtain ⟨rp, rfl, rfl⟩ := pures_ok rc hx
        exact k _ _ [] [] (sm.trans s4) (.p (.tup (.inl upd_same) (rp.ext s4.tups))) (fun _ q => nomatch q) fun _ q => nomatch q
      · cases hq
        exact k _ _ G' C' (sm.trans s4) (.mt (.inl upd_same) (rc.same s4)) (fun a q => n1 a (s1 a q)) fun a q => c1 a (s2 a q)
  | @lst a0 ws ys h r =>
    cases hq
    refine .inl ⟨_, _, rfl, .of h, fun p hp => ?_⟩
    have s4 := same_upd (o := .lst (cutV ws l u)) hp
    exact k _ _ [p] [] (sm.trans s4) (.lst upd_same ((r.cut l u).ext s4.tups)) (fun a q => by simp at q; rw [q]; exact sm.free hp) fun _ q => nomatch q
  | @fz a0 o ws ys h r =>
    cases hq
    refine .inl ⟨_, _, rfl, .inl (.inr ⟨_, h⟩), fun p hp => ?_⟩
    have s4 := same_upd (o := .lst (cutV ws l u)) hp
    exact k _ _ [p] [] (sm.trans s4) (.lst upd_same ((r.cut l u).ext s4.tups)) (fun a q => by simp at q; rw [q]; exact sm.free hp) fun _ q => nomatch q
  | @fk a0 ws ys h r =>
    cases hq
    refine .inl ⟨_, _, rfl, h.seq H3, fun p hp => ?_⟩
    have s4 := same_upd (o := .lst (cutV ws l u)) hp
    exact k _ _ [p] [] (sm.trans s4) (.lst upd_same ((r.cut l u).ext s4.tups)) (fun a q => by simp at q; rw [q]; exact sm.free hp) fun _ q => nomatch q
  | @ro a0 ws ys h r =>
    cases hq
    refine .inl ⟨_, _, rfl, .of h, fun p hp => ?_⟩
    have s4 := same_upd (o := .lst (cutV ws l u)) hp
    exact k _ _ [p] [] (sm.trans s4) (.lst upd_same ((r.cut l u).ext s4.tups)) (fun a q => by simp at q; rw [q]; exact sm.free hp) fun _ q => nomatch q
  | _ => cases hq

/-! ### built-ins by values -/
def SCa (X : Cx) (f : Value) (g : List DV → Option DV) : Prop :=
  CallR X f (fun vs H Q => ∃ ds G C d, RpAll X.K H vs ds G C ∧ g ds = some d ∧ ∀ v H' G', Same H H' → Rp X.K H' v d G' [] → (∀ a ∈ G', H a = none) → Q v H')
theorem sca_of {f : Value} {r : List V → Hp → VK → Prop} {g : List DV → Option DV} (h : CallR X f r)
    (i : ∀ vs H Q ds G C d, RpAll X.K H vs ds G C → g ds = some d → (∀ v H' G', Same H H' → Rp X.K H' v d G' [] → (∀ a ∈ G', H a = none) → Q v H') → r vs H Q) : SCa X f g := by
  intro pins s σ H vs us Q I rs q
  obtain ⟨ds, G, C, d, r1, e, k⟩ := q
  exact h pins s σ H vs us Q I rs (i vs H Q ds G C d r1 e k)
theorem sca_or {f : Value} {g g' h : List DV → Option DV} (a : SCa X f g) (b : SCa X f g') (o : ∀ ds d, h ds = some d → g ds = some d ∨ g' ds = some d) : SCa X f h := by
  intro pins s σ H vs us Q I rs q
  obtain ⟨ds, G, C, d, r1, e, k⟩ := q
  rcases o ds d e with e | e
  · exact a pins s σ H vs us Q I rs ⟨ds, G, C, d, r1, e, k⟩
  · exact b pins s σ H vs us Q I rs ⟨ds, G, C, d, r1, e, k⟩
theorem rq_ca {r : List V → Hp → VK → Prop} {q : En → Option (List DV)} {g : List DV → Option DV}
    (i : ∀ vs H Q ds G C d, RpAll X.K H vs ds G C → g ds = some d → (∀ v H' G', Same H H' → Rp X.K H' v d G' [] → (∀ a ∈ G', H a = none) → Q v H') → r vs H Q)
    {σ : Sg} {H : Hp} {Q : VK} (h : rQ X.K (qMk g q) σ H Q) : tCB r (rA X.K q) σ H Q := by
  obtain ⟨env, F, B, d, hS, dj, hq, k⟩ := h
  obtain ⟨ds, h1, hq⟩ := Option.bind_eq_some_iff.mp hq
  refine ⟨env, F, B, ds, hS, dj, h1, fun vs H1 G C sm r n c => ?_⟩
  exact i vs H1 Q ds G C d r hq fun v H' G' sm2 r2 n2 => k v H' G' [] (sm.trans sm2) r2 (fun a q => sm.free (n2 a q)) fun _ q => nomatch q
theorem re_ca {r : List V → Hp → VK → Prop} {f : En → Option (List DV × En)} {g : List DV → Option DV}
    (i : ∀ vs H Q ds G C d, RpAll X.K H vs ds G C → g ds = some d → (∀ v H' G', Same H H' → Rp X.K H' v d G' [] → (∀ a ∈ G', H a = none) → Q v H') → r vs H Q)
    {σ : Sg} {H : Hp} {Q : VK} (h : rE X.K (eMk g f) σ H Q) : tCB r (rAE X.K f) σ H Q := by
  obtain ⟨env, F, B, d, env', hS, dj, hq, k⟩ := h
  obtain ⟨⟨ds, env1⟩, h1, hq⟩ := Option.bind_eq_some_iff.mp hq
  obtain ⟨d', h2, h3⟩ := Option.map_eq_some_iff.mp hq
  cases h3
  refine ⟨env, F, B, ds, _, hS, dj, h1, fun vs H1 F1 B1 G k1 S1 n1 b1 r g1 d1 => ?_⟩
  refine i vs H1 Q ds G [] _ r h2 fun v H2 G2 sm2 r2 n2 => ?_
  refine k v H2 F1 B1 G2 (k1.trans (F1 := F) sm2.keep fun x q => .inl q) (S1.same sm2) n1 b1 r2 (fun x q => nw_upd k1 (n2 x q)) fun x q z => ?_
  obtain ⟨o, e, _⟩ := S1.own x z
  rw [n2 x q] at e; cases e
section
variable {x : Str} {id T : String} {p : Pos} {g : List DV → Option DV}
theorem sq_callB {q : En → Option (List DV)} (h : SCa X (.builtin id) g) (ha : SA X (e :: es) q) (hm : X.mg x = none) (hv : bootBuiltins x = some (.builtin id)) (hg : Gl X x := by rfl) (hn : x ≠ "__name__" := by decide) (hdb : (x == ("__debug__" : Str)) = false := by decide)
    (he : starEach (e :: es) X.env = (false, eval e X.env) :: starEach es X.env := by rfl) (hpl : (backTo pos (starEach es X.env)).any (·.1) = false := by rfl) : SQ X (.Call (.Name x p) (e :: es) [] pos) (qMk g q) :=
  ⟨pe_imp (pe_callB h hg hm hv ha.pa hn hdb he hpl) fun σ H Q => rq_ca fun vs H Q ds G C d r e k => ⟨ds, G, C, d, r, e, k⟩⟩
theorem se_callB {f : En → Option (List DV × En)} (h : SCa X (.builtin id) g) (ha : SAE X (e :: es) f) (hm : X.mg x = none) (hv : bootBuiltins x = some (.builtin id)) (hg : Gl X x := by rfl) (hn : x ≠ "__name__" := by decide) (hdb : (x == ("__debug__" : Str)) = false := by decide)
    (he : starEach (e :: es) X.env = (false, eval e X.env) :: starEach es X.env := by rfl) (hpl : (backTo pos (starEach es X.env)).any (·.1) = false := by rfl) : SE X (.Call (.Name x p) (e :: es) [] pos) (eMk g f) :=
  ⟨pe_imp (pe_callB h hg hm hv ha.pa hn hdb he hpl) fun σ H Q => re_ca fun vs H Q ds G C d r e k => ⟨ds, G, C, d, r, e, k⟩⟩
theorem sq_callT {q : En → Option (List DV)} (h : SCa X (.type T) g) (ha : SA X (e :: es) q) (hm : X.mg x = none) (hv : bootBuiltins x = some (.type T)) (hg : Gl X x := by rfl) (hn : x ≠ "__name__" := by decide) (hdb : (x == ("__debug__" : Str)) = false := by decide)
    (he : starEach (e :: es) X.env = (false, eval e X.env) :: starEach es X.env := by rfl) (hpl : (backTo pos (starEach es X.env)).any (·.1) = false := by rfl) : SQ X (.Call (.Name x p) (e :: es) [] pos) (qMk g q) :=
  ⟨pe_imp (pe_callTy h hg hm hv ha.pa hn hdb he hpl) fun σ H Q => rq_ca fun vs H Q ds G C d r e k => ⟨ds, G, C, d, r, e, k⟩⟩
theorem se_callT {f : En → Option (List DV × En)} (h : SCa X (.type T) g) (ha : SAE X (e :: es) f) (hm : X.mg x = none) (hv : bootBuiltins x = some (.type T)) (hg : Gl X x := by rfl) (hn : x ≠ "__name__" := by decide) (hdb : (x == ("__debug__" : Str)) = false := by decide)
    (he : starEach (e :: es) X.env = (false, eval e X.env) :: starEach es X.env := by rfl) (hpl : (backTo pos (starEach es X.env)).any (·.1) = false := by rfl) : SE X (.Call (.Name x p) (e :: es) [] pos) (eMk g f) :=
  ⟨pe_imp (pe_callTy h hg hm hv ha.pa hn hdb he hpl) fun σ H Q => re_ca fun vs H Q ds G C d r e k => ⟨ds, G, C, d, r, e, k⟩⟩
end
/-- one argument -/
theorem RpAll.one {K : PySem.W.Frag} {H : Hp} {vs : List V} {d : DV} {G C : Fp} (h : RpAll K H vs [d] G C) : ∃ v G1 C1, vs = [v] ∧ Rp K H v d G1 C1 := by
  cases h with
  | cons a b c => cases b; exact ⟨_, _, _, rfl, a⟩
theorem RpAll.two {K : PySem.W.Frag} {H : Hp} {vs : List V} {d e : DV} {G C : Fp} (h : RpAll K H vs [d, e] G C) : ∃ v w G1 C1 G2 C2, vs = [v, w] ∧ Rp K H v d G1 C1 ∧ Rp K H w e G2 C2 := by
  cases h with
  | cons a b c =>
    obtain ⟨w, G2, C2, rfl, h2⟩ := RpAll.one b
    exact ⟨_, _, _, _, _, _, rfl, a, h2⟩
def dlen : DV → Option Nat
  | .p (.tup xs) => some xs.length
  | .lst xs => some xs.length
  | .ro xs => some xs.length
  | .fz xs => some xs.length
  | .ml xs => some xs.length
  | .mr xs => some xs.length
  | .mt xs => some xs.length
  | .p (.str z) => if z.length ≤ sizeLine then some z.length else none
  | _ => none
def dLen : List DV → Option DV
  | [d] => (dlen d).map fun (n : Nat) => DV.p (.int (n : Int))
  | _ => none
theorem dlen_ok {K : PySem.W.Frag} {H : Hp} {v : V} {d : DV} {n : Nat} {G C : Fp} (r : Rp K H v d G C) (e : dlen d = some n) : LenV K v H n := by
  cases r with
  | p r =>
    cases r with
    | tup t r => cases e; exact .inr ⟨_, t.seq, r.length.symm⟩
    | str z =>
      simp only [dlen] at e
      split at e
      · rename_i h; cases e; exact ⟨h, rfl⟩
      · cases e
    | _ => cases e
  | lst h r => cases e; exact .inl ⟨_, .of h, r.length.symm⟩
  | ro h r => cases e; exact .inl ⟨_, .of h, r.length.symm⟩
  | fz h r => cases e; exact .inl ⟨_, .inl (.inr ⟨_, h⟩), r.length.symm⟩
  | fk h r => cases e; exact .inl ⟨_, h.seq H, r.length.symm⟩
  | ml h r _ _ => cases e; exact .inl ⟨_, .of h, r.length.symm⟩
  | mr h r => cases e; exact .inl ⟨_, .of h, r.length.symm⟩
  | mt t r => cases e; exact .inr ⟨_, t.seq, r.length.symm⟩
  | _ => cases e
theorem sca_len : SCa X (.builtin "len") dLen := by
  refine sca_of call_len fun vs H Q ds G C d r e k => ?_
  unfold dLen at e
  split at e
  · obtain ⟨n, h1, rfl⟩ := Option.map_eq_some_iff.mp e
    obtain ⟨v, G1, C1, rfl, r1⟩ := RpAll.one r
    exact ⟨v, _, rfl, dlen_ok r1 h1, k _ H [] (Same.refl H) (.p (.int _)) fun _ q => nomatch q⟩
  · cases e
def dInt : List DV → Option DV
  | [.p (.int i)] => some (.p (.int i))
  | [.p (.bl b)] => some (.p (.int (if b then 1 else 0)))
  | _ => none
theorem sca_int : SCa X (.type "int") dInt := by
  refine sca_of call_int1 fun vs H Q ds G C d r e k => ?_
  unfold dInt at e
  split at e
  · cases e
    obtain ⟨v, G1, C1, rfl, r1⟩ := RpAll.one r
    obtain ⟨rp, _, _⟩ := r1.pure
    cases rp
    exact .inl ⟨_, rfl, k _ H [] (Same.refl H) (.p (.int _)) fun _ q => nomatch q⟩
  · rename_i b
    cases e
    obtain ⟨v, G1, C1, rfl, r1⟩ := RpAll.one r
    obtain ⟨rp, _, _⟩ := r1.pure
    cases rp
    exact .inr ⟨_, rfl, k _ H [] (Same.refl H) (by cases b <;> exact .p (.int _)) fun _ q => nomatch q⟩
  · cases e
def dAbs : List DV → Option DV
  | [.p (.int i)] => some (.p (.int (if i < 0 then -i else i)))
  | _ => none
theorem sca_abs : SCa X (.builtin "abs") dAbs := by
  refine sca_of call_abs fun vs H Q ds G C d r e k => ?_
  unfold dAbs at e
  split at e
  · cases e
    obtain ⟨v, G1, C1, rfl, r1⟩ := RpAll.one r
    obtain ⟨rp, _, _⟩ := r1.pure
    cases rp
    exact ⟨_, rfl, k _ H [] (Same.refl H) (.p (.int _)) fun _ q => nomatch q⟩
  · cases e
def dMax2 : List DV → Option DV
  | [.p (.int i), .p (.int j)] => some (.p (.int (if j > i then j else i)))
  | _ => none
def dMin2 : List DV → Option DV
  | [.p (.int i), .p (.int j)] => some (.p (.int (if j < i then j else i)))
  | _ => none
def dSum : List DV → Option DV
  | [d] => d.seq.bind fun xs => match d with
    | .p _ => none
    | _ => (intsOf xs).map fun ns => .p (.int ns.sum)
  | _ => none
theorem sca_sum (hc : X.calm = true := by rfl) : SCa X (.builtin "sum") dSum := by
  refine sca_of (cr_sum hc) fun vs H Q ds G C d r e k => ?_
  unfold dSum at e
  split at e
  · rename_i d0
    obtain ⟨xs, h1, e⟩ := Option.bind_eq_some_iff.mp e
    obtain ⟨v, G1, C1, rfl, r1⟩ := RpAll.one r
    obtain ⟨p, ws, rfl, _, h2, h3⟩ := seq_ok r1 h1
    split at e
    · cases e
    · rename_i hne
      obtain ⟨ns, h4, rfl⟩ := Option.map_eq_some_iff.mp e
      rcases h3 with ⟨rfl, _⟩ | h3
      · exact absurd rfl (hne _)
      · rw [intsOf_eq h4] at h2
        rw [RPs.of_int h2] at h3
        exact ⟨p, ns, rfl, h3, k _ H [] (Same.refl H) (.p (.int _)) fun _ q => nomatch q⟩
  · cases e
def dAll : List DV → Option DV
  | [.lst xs] => (boolsOf xs).map fun bs => .p (.bl (bs.all id))
  | _ => none
def dAny : List DV → Option DV
  | [.lst xs] => (boolsOf xs).map fun bs => .p (.bl (bs.any id))
  | _ => none
theorem lst_bools {K : PySem.W.Frag} {H : Hp} {v : V} {xs : List PV} {bs : List Bool} {G C : Fp} (r : Rp K H v (.lst xs) G C) (e : boolsOf xs = some bs) : ∃ a, v = .ref a ∧ SqL K H a (bs.map V.bl) := by
  cases r with
  | lst h r =>
    rw [boolsOf_eq e] at r
    rw [RPs.of_bl r] at h
    exact ⟨_, rfl, .of h⟩
theorem sca_all (hc : X.calm = true := by rfl) : SCa X (.builtin "all") dAll := by
  refine sca_of (cr_all hc) fun vs H Q ds G C d r e k => ?_
  unfold dAll at e
  split at e
  · obtain ⟨bs, h1, rfl⟩ := Option.map_eq_some_iff.mp e
    obtain ⟨v, G1, C1, rfl, r1⟩ := RpAll.one r
    obtain ⟨a, rfl, h⟩ := lst_bools r1 h1
    exact ⟨a, bs, rfl, h, k _ H [] (Same.refl H) (.p (.bl _)) fun _ q => nomatch q⟩
  · cases e
theorem sca_any (hc : X.calm = true := by rfl) : SCa X (.builtin "any") dAny := by
  refine sca_of (cr_any hc) fun vs H Q ds G C d r e k => ?_
  unfold dAny at e
  split at e
  · obtain ⟨bs, h1, rfl⟩ := Option.map_eq_some_iff.mp e
    obtain ⟨v, G1, C1, rfl, r1⟩ := RpAll.one r
    obtain ⟨a, rfl, h⟩ := lst_bools r1 h1
    exact ⟨a, bs, rfl, h, k _ H [] (Same.refl H) (.p (.bl _)) fun _ q => nomatch q⟩
  · cases e
def dTuple : List DV → Option DV
  | [d] => d.seq.map fun xs => .p (.tup xs)
  | _ => none
def dList : List DV → Option DV
  | [d] => d.seq.map fun xs => .lst xs
  | _ => none
theorem sca_tuple : SCa X (.type "tuple") dTuple := by
  refine sca_of call_tuple_of fun vs H Q ds G C d r e k => ?_
  unfold dTuple at e
  split at e
  · obtain ⟨xs, h1, rfl⟩ := Option.map_eq_some_iff.mp e
    obtain ⟨v, G1, C1, rfl, r1⟩ := RpAll.one r
    obtain ⟨p, ws, rfl, _, h2, h3⟩ := seq_ok r1 h1
    refine ⟨p, ws, rfl, ?_⟩
    rcases h3 with ⟨rfl, h3⟩ | h3
    · refine .inr ⟨h3, k _ H [] (Same.refl H) ?_ fun _ q => nomatch q⟩
      obtain ⟨rp, _, _⟩ := r1.pure
      exact .p rp
    · refine .inl ⟨h3, fun l hl => ?_⟩
      have sm := same_upd (o := .tup ws) hl
      exact k _ _ [] sm (.p (.tup (.inl upd_same) (h2.ext sm.tups))) fun _ q => nomatch q
  · cases e
theorem sca_list : SCa X (.type "list") dList := by
  refine sca_of call_list_of fun vs H Q ds G C d r e k => ?_
  unfold dList at e
  split at e
  · obtain ⟨xs, h1, rfl⟩ := Option.map_eq_some_iff.mp e
    obtain ⟨v, G1, C1, rfl, r1⟩ := RpAll.one r
    obtain ⟨p, ws, rfl, h0, h2, h3⟩ := seq_ok r1 h1
    refine ⟨p, ws, rfl, h0.symm, fun l hl => ?_⟩
    have sm := same_upd (o := .lst ws) hl
    exact k _ _ [l] sm (.lst upd_same (h2.ext sm.tups)) fun a q => by simp at q; rw [q]; exact hl
  · cases e
theorem sca_max2 (hc : X.calm = true := by rfl) : SCa X (.builtin "max") dMax2 := by
  refine sca_of (call_max2 hc) fun vs H Q ds G C d r e k => ?_
  unfold dMax2 at e
  split at e
  · cases e
    obtain ⟨v, w, G1, C1, G2, C2, rfl, r1, r2⟩ := RpAll.two r
    obtain ⟨rp, _, _⟩ := r1.pure
    cases rp
    obtain ⟨rp, _, _⟩ := r2.pure
    cases rp
    exact ⟨_, _, rfl, k _ H [] (Same.refl H) (.p (.int _)) fun _ q => nomatch q⟩
  · cases e
theorem sca_min2 (hc : X.calm = true := by rfl) : SCa X (.builtin "min") dMin2 := by
  refine sca_of (call_min2 hc) fun vs H Q ds G C d r e k => ?_
  unfold dMin2 at e
  split at e
  · cases e
    obtain ⟨v, w, G1, C1, G2, C2, rfl, r1, r2⟩ := RpAll.two r
    obtain ⟨rp, _, _⟩ := r1.pure
    cases rp
    obtain ⟨rp, _, _⟩ := r2.pure
    cases rp
    exact ⟨_, _, rfl, k _ H [] (Same.refl H) (.p (.int _)) fun _ q => nomatch q⟩
  · cases e
/-! ### isinstance with int, bool, tuple, str, list -/
def dtyp : DV → Option String
  | .p .non => some "NoneType"
  | .p (.bl _) => some "bool"
  | .p (.int _) => some "int"
  | .p (.str _) => some "str"
  | .p (.tup _) => some "tuple"
  | .lst _ => some "list"
  | .ro _ => some "list"
  | .ml _ => some "list"
  | .mr _ => some "list"
  | .mt _ => some "tuple"
  | _ => none
theorem dtyp_ok {K : PySem.W.Frag} {H : Hp} {v : V} {d : DV} {t : String} {G C : Fp} (r : Rp K H v d G C) (e : dtyp d = some t) : TyX K H v (.type t) := by
  cases r with
  | p r =>
    cases r with
    | tup t r =>
      cases e
      rcases t with t | ⟨o, its, n, h1, h2, _⟩
      · exact .base (.tup t)
      · exact .kTuple h1 h2
    | non => cases e; exact .base .non
    | bl b => cases e; exact .base (.bl b)
    | int b => cases e; exact .base (.int b)
    | str b => cases e; exact .base (.str b)
  | lst h r => cases e; exact .base (.lst h)
  | ro h r => cases e; exact .base (.lst h)
  | ml h r _ _ => cases e; exact .base (.lst h)
  | mr h r => cases e; exact .base (.lst h)
  | mt t r =>
    cases e
    rcases t with t | ⟨o, its, n, h1, h2, _⟩
    · exact .base (.tup t)
    · exact .kTuple h1 h2
  | _ => cases e
inductive Ky where
  | int | bool | tuple | str | list
def Ky.name : Ky → String
  | .int => "int"
  | .bool => "bool"
  | .tuple => "tuple"
  | .str => "str"
  | .list => "list"
def dIsi : Ky → DV → Option DV
  | .int, .p (.int _) => some (.p (.bl true))
  | .int, .p (.bl _) => some (.p (.bl true))
  | .bool, .p (.bl _) => some (.p (.bl true))
  | .tuple, .p (.tup _) => some (.p (.bl true))
  | .str, .p (.str _) => some (.p (.bl true))
  | .tuple, .mt _ => some (.p (.bl true))
  | .list, .lst _ => some (.p (.bl true))
  | .list, .ro _ => some (.p (.bl true))
  | .list, .ml _ => some (.p (.bl true))
  | .list, .mr _ => some (.p (.bl true))
  | _, .dic _ => none
  | _, .rod _ => none
  | _, .fz _ => none
  | _, _ => some (.p (.bl false))
theorem kitB_ky (t : String) (k : Ky) (d : DV) (h : dtyp d = some t) (b : Bool) (e : dIsi k d = some (.p (.bl b))) : kitB t k.name = some b := by
  cases d with
  | p x => cases x <;> cases h <;> cases k <;> cases e <;> decide +kernel
  | lst x => cases h <;> cases k <;> cases e <;> decide +kernel
  | ro x => cases h <;> cases k <;> cases e <;> decide +kernel
  | fz x => cases h
  | ml x => cases h <;> cases k <;> cases e <;> decide +kernel
  | mr x => cases h <;> cases k <;> cases e <;> decide +kernel
  | mt x => cases h <;> cases k <;> cases e <;> decide +kernel
  | dic x => cases h
  | rod x => cases h
theorem dIsi_bl {k : Ky} {d d' : DV} (e : dIsi k d = some d') : ∃ b, d' = .p (.bl b) ∧ ∃ t, dtyp d = some t := by
  cases d with
  | p x => cases x <;> cases k <;> cases e <;> exact ⟨_, rfl, _, rfl⟩
  | lst x => cases k <;> cases e <;> exact ⟨_, rfl, _, rfl⟩
  | ro x => cases k <;> cases e <;> exact ⟨_, rfl, _, rfl⟩
  | fz x => cases k <;> cases e
  | ml x => cases k <;> cases e <;> exact ⟨_, rfl, _, rfl⟩
  | mr x => cases k <;> cases e <;> exact ⟨_, rfl, _, rfl⟩
  | mt x => cases k <;> cases e <;> exact ⟨_, rfl, _, rfl⟩
  | dic x => cases k <;> cases e
  | rod x => cases k <;> cases e
theorem sq_isi (k : Ky) {q : En → Option DV} {y : Str} {p p2 : Pos} (h : SQ X e q) (hm : X.mg "isinstance" = none) (hm2 : X.mg y = none) (hv : bootBuiltins y = some (.type k.name)) (hg : Gl X "isinstance" := by rfl) (hg2 : Gl X y := by rfl) (hn : y ≠ "__name__" := by decide) (hd : (y == ("__debug__" : Str)) = false := by decide)
    (he : starEach [e, .Name y p2] X.env = (false, eval e X.env) :: starEach [.Name y p2] X.env := by rfl) (hpl : (backTo pos (starEach [.Name y p2] X.env)).any (·.1) = false := by rfl) (he2 : starEach [.Name y p2] X.env = (false, eval (.Name y p2) X.env) :: starEach [] X.env := by rfl) :
    SQ X (.Call (.Name "isinstance" p) [e, .Name y p2] [] pos) (qUn (dIsi k) q) := by
  refine ⟨pe_imp (pe_callB call_isi hg hm boot_isinstance (pa_cons h.pe (pa_cons (pe_bltn (v := .ty k.name) hg2 hm2 hv rfl hn hd) pa_nil he2) he) (by decide) (by decide) he hpl) ?_⟩
  rintro σ H Q ⟨env, F, B, d, hS, dj, hq, kk⟩
  obtain ⟨d1, h1, hq⟩ := Option.bind_eq_some_iff.mp hq
  refine ⟨env, F, B, d1, hS, dj, h1, fun v H1 G C sm r n c => ?_⟩
  obtain ⟨b, rfl, t, ht⟩ := dIsi_bl hq
  exact ⟨v, _, _, _, b, rfl, .ty _, dtyp_ok r ht, kit_ty (kitB_ky t k d1 ht b hq), kk _ H1 [] [] sm (.p (.bl b)) (fun _ q => nomatch q) fun _ q => nomatch q⟩
/-! ### list(range(..)) -/
def rgP (a b : Int) : List PV := (List.range (b - a).toNat).map fun i => PV.int (a + (i : Nat))
theorem rgP_rps {K : PySem.W.Frag} {H : Hp} (a b : Int) : RPs K H (rgV a b) (rgP a b) := by
  unfold rgV rgP
  generalize List.range (b - a).toNat = l
  induction l with
  | nil => exact .nil
  | cons x l ih => exact .cons (.int _) ih
/-- a bound by bits (a symbol under it stays a symbol) -/
def lg (k : Nat) (i : Int) : Bool := decide (i.natAbs.log2 < k)
theorem lg_lt {k : Nat} {i : Int} (h : lg k i = true) (hk : 0 < k) : i.natAbs < 2 ^ k := by
  have h : i.natAbs.log2 < k := of_decide_eq_true h
  by_cases h0 : i.natAbs = 0
  · rw [h0]; exact Nat.two_pow_pos k
  · exact (Nat.log2_lt h0).mp h
theorem lg_of {k : Nat} {i : Int} (h : i.natAbs < 2 ^ k) (hk : 0 < k) : lg k i = true := by
  by_cases h0 : i.natAbs = 0
  · simp [lg, h0]; exact hk
  · exact decide_eq_true ((Nat.log2_lt h0).mpr h)
def rgOk (a b : Int) : Bool := lg 29 a && lg 29 b && lg 24 ((b - a).toNat : Int)
theorem rgOk_ok {a b : Int} (h : rgOk a b = true) : RgOk a b := by
  unfold rgOk at h
  simp only [Bool.and_eq_true] at h
  obtain ⟨⟨h1, h3⟩, h5⟩ := h
  have h1 := lg_lt h1 (by decide)
  have h3 := lg_lt h3 (by decide)
  have h5 := lg_lt h5 (by decide)
  unfold RgOk
  refine ⟨by omega, by omega, by omega, by omega, by omega⟩
def qLr1 (q : En → Option DV) : En → Option DV := fun env => match q env with
  | some (.p (.int n)) => if rgOk 0 n then some (.lst (rgP 0 n)) else none
  | _ => none
theorem sq_listRg1 {q : En → Option DV} {p pos2 p2 : Pos} (h : SQ X e q) (hm : X.mg "list" = none) (hm2 : X.mg "range" = none) (hc : X.calm = true := by rfl) (hg : Gl X "list" := by rfl) (hg2 : Gl X "range" := by rfl)
    (na : starEach [e] X.env = (false, eval e X.env) :: starEach [] X.env := by rfl) (nb : starEach [.Call (.Name "range" p2) [e] [] pos2] X.env = (false, eval (.Call (.Name "range" p2) [e] [] pos2) X.env) :: starEach [] X.env := by rfl) :
    SQ X (.Call (.Name "list" p) [.Call (.Name "range" p2) [e] [] pos2] [] pos) (qLr1 q) := by
  refine ⟨pe_imp (pe_listRg hc hg hm (prg_1 hg2 hm2 h.pe na) nb) ?_⟩
  rintro σ H Q ⟨env, F, B, d, hS, dj, hq, kk⟩
  unfold qLr1 at hq
  split at hq
  · rename_i n hn
    split at hq
    · rename_i hr
      cases hq
      refine ⟨env, F, B, _, hS, dj, hn, fun v H1 G C sm r _ c => ?_⟩
      obtain ⟨rp, _, _⟩ := r.pure
      cases rp
      refine ⟨n, rfl, rgOk_ok hr, fun q hq => ?_⟩
      have s2 := same_upd (o := .lst (rgV 0 n)) hq
      exact kk _ _ [q] [] (sm.trans s2) (.lst upd_same (rgP_rps 0 n)) (fun a z => by simp at z; rw [z]; exact sm.free hq) fun _ q => nomatch q
    · cases hq
  · cases hq
end
end Sm

set_option Elab.async false
set_option linter.all false
set_option maxRecDepth 100000
/-! S4: statements. -/
namespace Sm
open PySem PySem.Spec PyProof.Rows L2
inductive Out where
  | nx (e : En) | rt (d : DV) (e : En) | bk (e : En) | ct (e : En)
abbrev Bk := En → Option Out
def Fx (fx : Nat → Bool) (σ σ' : Sg) : Prop := ∀ i, fx i = true → σ'[i]? = σ[i]?
theorem Fx.self {fx : Nat → Bool} {σ : Sg} : Fx fx σ σ := fun _ _ => rfl
theorem Fx.trans {fx : Nat → Bool} {σ σ' σ'' : Sg} (a : Fx fx σ σ') (b : Fx fx σ' σ'') : Fx fx σ σ'' := fun i h => (b i h).trans (a i h)
def Aft (K : PySem.W.Frag) (fx : Nat → Bool) (σ : Sg) (H : Hp) (F B : Fp) (e : En) (R : Sg → Hp → Prop) : Prop :=
  ∀ σ' H' F' B', Keep F H H' → StR K H' σ' e F' B' → Nw F H F' → Sb B B' → Fx fx σ σ' → R σ' H'
def AftR (K : PySem.W.Frag) (fx : Nat → Bool) (σ : Sg) (H : Hp) (F B : Fp) (d : DV) (e : En) (R : VK) : Prop :=
  ∀ v σ' H' F' B' G, Keep F H H' → StR K H' σ' e F' B' → Nw F H F' → Sb B B' → Fx fx σ σ' → Rp K H' v d G [] → Nw F H G → Disj G F' → R v H'
def OutR (K : PySem.W.Frag) (fx : Nat → Bool) (σ : Sg) (H : Hp) (F B : Fp) (o : Out) (D : Ends) : Prop := match o with
  | .nx e => Aft K fx σ H F B e D.nx
  | .bk e => Aft K fx σ H F B e D.bk
  | .ct e => Aft K fx σ H F B e D.ct
  | .rt d e => AftR K fx σ H F B d e D.rt
def rS (K : PySem.W.Frag) (fx : Nat → Bool) (b : Bk) : TS := fun D σ H => ∃ env F B o, StR K H σ env F B ∧ Disj F B ∧ b env = some o ∧ OutR K fx σ H F B o D
structure SS (X : Cx) (fx : Nat → Bool) (st : Stmt) (b : Bk) : Prop where
  ps : PS X st (rS X.K fx b)
structure SSs (X : Cx) (fx : Nat → Bool) (st : List Stmt) (b : Bk) : Prop where
  ps : PSs X st (rS X.K fx b)
theorem ps_imp {X : Cx} {st : Stmt} {t t' : TS} (h : PS X st t) (i : ∀ D σ H, t' D σ H → t D σ H) : PS X st t' := ⟨fun pins s σ H D I hq => h.run pins s σ H D I (i _ _ _ hq)⟩
theorem pss_imp {X : Cx} {st : List Stmt} {t t' : TS} (h : PSs X st t) (i : ∀ D σ H, t' D σ H → t D σ H) : PSs X st t' := ⟨fun pins s σ H D I hq => h.run pins s σ H D I (i _ _ _ hq)⟩
section
variable {K : PySem.W.Frag} {fx : Nat → Bool} {σ σ1 : Sg} {H H1 : Hp} {F F1 B B1 : Fp} {e : En}
/-- what follows behind a first part -/
theorem Aft.then (k1 : Keep F H H1) (n1 : Nw F H F1) (b1 : Sb B B1) (x1 : Fx fx σ σ1) {R : Sg → Hp → Prop} (h : Aft K fx σ H F B e R) : Aft K fx σ1 H1 F1 B1 e R :=
  fun σ' H' F' B' k S n b x => h σ' H' F' B' (k1.trans k n1) S (Nw.trans k1 n1 n) (b1.trans b) (x1.trans x)
theorem AftR.then (k1 : Keep F H H1) (n1 : Nw F H F1) (b1 : Sb B B1) (x1 : Fx fx σ σ1) {d : DV} {R : VK} (h : AftR K fx σ H F B d e R) : AftR K fx σ1 H1 F1 B1 d e R :=
  fun v σ' H' F' B' G k S n b x r g dj => h v σ' H' F' B' G (k1.trans k n1) S (Nw.trans k1 n1 n) (b1.trans b) (x1.trans x) r (Nw.trans k1 n1 g) dj
theorem OutR.then (k1 : Keep F H H1) (n1 : Nw F H F1) (b1 : Sb B B1) (x1 : Fx fx σ σ1) {o : Out} {D : Ends} (h : OutR K fx σ H F B o D) : OutR K fx σ1 H1 F1 B1 o D := by
  cases o with
  | nx e => exact Aft.then k1 n1 b1 x1 h
  | bk e => exact Aft.then k1 n1 b1 x1 h
  | ct e => exact Aft.then k1 n1 b1 x1 h
  | rt d e => exact AftR.then k1 n1 b1 x1 h
end
def sSeq (b c : Bk) : Bk := fun env => match b env with
  | some (.nx e) => c e
  | some (.rt d e) => some (.rt d e)
  | some (.bk e) => some (.bk e)
  | some (.ct e) => some (.ct e)
  | none => none
def sNext : Bk := fun env => some (.nx env)
def sBrk : Bk := fun env => some (.bk env)
def sCnt : Bk := fun env => some (.ct env)
def sNever : Bk := fun _ => none
def sRet (f : En → Option (DV × En)) : Bk := fun env => (f env).map fun x => .rt x.1 x.2
def sDrop (f : En → Option (DV × En)) : Bk := fun env => (f env).map fun x => .nx x.2
def sRetN : Bk := fun env => some (.rt (.p .non) env)
def sIf (t : En → Option (Bool × En)) (a b : Bk) : Bk := fun env => match t env with
  | some (true, e) => a e
  | some (false, e) => b e
  | none => none
section
variable {X : Cx} {fx : Nat → Bool} {st : Stmt} {rest : List Stmt} {a b : Expr} {e : Expr} {pos : Pos}
theorem sss_nil : SSs X fx [] sNext := by
  refine ⟨pss_imp pss_nil ?_⟩
  rintro D σ H ⟨env, F, B, o, hS, dj, hb, k⟩
  cases hb
  exact k σ H F B Keep.refl hS Nw.self Sb.self Fx.self
theorem sss_one {b : Bk} (h : SS X fx st b) : SSs X fx [st] b := ⟨pss_one h.ps⟩
theorem sss_cons {b c : Bk} (h : SS X fx st b) (g : SSs X fx rest c) : SSs X fx (st :: rest) (sSeq b c) := by
  refine ⟨pss_imp (pss_cons h.ps g.ps) ?_⟩
  rintro D σ H ⟨env, F, B, o, hS, dj, hb, k⟩
  unfold sSeq at hb
  split at hb
  · rename_i e1 h1
    refine ⟨env, F, B, _, hS, dj, h1, fun σ1 H1 F1 B1 k1 S1 n1 b1 x1 => ?_⟩
    exact ⟨e1, F1, B1, o, S1, dj_of hS dj n1 b1, hb, k.then k1 n1 b1 x1⟩
  · rename_i d1 e1 h1
    cases hb
    exact ⟨env, F, B, _, hS, dj, h1, k⟩
  · rename_i e1 h1
    cases hb
    exact ⟨env, F, B, _, hS, dj, h1, k⟩
  · rename_i e1 h1
    cases hb
    exact ⟨env, F, B, _, hS, dj, h1, k⟩
  · cases hb
theorem ss_never : SS X fx st sNever := by
  refine ⟨ps_imp ps_never ?_⟩
  rintro D σ H ⟨env, F, B, o, hS, dj, hb, k⟩
  cases hb
theorem ss_pass : SS X fx (.Pass pos) sNext := by
  refine ⟨ps_imp ps_pass ?_⟩
  rintro D σ H ⟨env, F, B, o, hS, dj, hb, k⟩
  cases hb
  exact k σ H F B Keep.refl hS Nw.self Sb.self Fx.self
theorem ss_break : SS X fx (.Break pos) sBrk := by
  refine ⟨ps_imp ps_break ?_⟩
  rintro D σ H ⟨env, F, B, o, hS, dj, hb, k⟩
  cases hb
  exact k σ H F B Keep.refl hS Nw.self Sb.self Fx.self
theorem ss_continue : SS X fx (.Continue pos) sCnt := by
  refine ⟨ps_imp ps_continue ?_⟩
  rintro D σ H ⟨env, F, B, o, hS, dj, hb, k⟩
  cases hb
  exact k σ H F B Keep.refl hS Nw.self Sb.self Fx.self
theorem ss_ret {f : En → Option (DV × En)} (h : SE X e f) : SS X fx (.Return (some e) pos) (sRet f) := by
  refine ⟨ps_imp (ps_ret h.pe) ?_⟩
  rintro D σ H ⟨env, F, B, o, hS, dj, hb, k⟩
  obtain ⟨⟨d, e1⟩, h1, rfl⟩ := Option.map_eq_some_iff.mp hb
  exact ⟨env, F, B, d, e1, hS, dj, h1, fun v H' F' B' G k1 S1 n1 b1 r g d1 => k v σ H' F' B' G k1 S1 n1 b1 Fx.self r g d1⟩
theorem ss_retN : SS X fx (.Return none pos) sRetN := by
  refine ⟨ps_imp ps_retN ?_⟩
  rintro D σ H ⟨env, F, B, o, hS, dj, hb, k⟩
  cases hb
  exact k _ σ H F B [] Keep.refl hS Nw.self Sb.self Fx.self (.p .non) (fun _ q => nomatch q) fun _ q => nomatch q
theorem ss_expr {f : En → Option (DV × En)} (h : SE X e f) (hs : swapsWith e none pos.line X.env = pure false := by rfl) : SS X fx (.Expr e pos) (sDrop f) := by
  refine ⟨ps_imp (ps_expr h.pe hs) ?_⟩
  rintro D σ H ⟨env, F, B, o, hS, dj, hb, k⟩
  obtain ⟨⟨d, e1⟩, h1, rfl⟩ := Option.map_eq_some_iff.mp hb
  exact ⟨env, F, B, d, e1, hS, dj, h1, fun v H' F' B' G k1 S1 n1 b1 r g d1 => k σ H' F' B' k1 S1 n1 b1 Fx.self⟩
theorem ss_if {t : En → Option (Bool × En)} {p q : Bk} {as bs : List Stmt} (ht : ST X e t) (ha : SSs X fx as p) (hb : SSs X fx bs q) : SS X fx (.If e as bs pos) (sIf t p q) := by
  refine ⟨ps_imp (ps_if ht.pt ha.ps hb.ps) ?_⟩
  rintro D σ H ⟨env, F, B, o, hS, dj, hb, k⟩
  unfold sIf at hb
  split at hb
  · rename_i e1 h1
    refine ⟨env, F, B, true, e1, hS, dj, h1, fun H1 F1 B1 k1 S1 n1 b1 => ?_⟩
    refine iteT ?_
    exact ⟨e1, F1, B1, o, S1, dj_of hS dj n1 b1, hb, k.then k1 n1 b1 Fx.self⟩
  · rename_i e1 h1
    refine ⟨env, F, B, false, e1, hS, dj, h1, fun H1 F1 B1 k1 S1 n1 b1 => ?_⟩
    refine iteF ?_
    exact ⟨e1, F1, B1, o, S1, dj_of hS dj n1 b1, hb, k.then k1 n1 b1 Fx.self⟩
  · cases hb

/-! ### moving a name's value out -/
def eMove (i : Nat) : En → Option (DV × En) := fun env => match env.g i with
  | some (.p x) => some (.p x, env)
  | some d => if d.owned then some (d, env.set i none) else none
  | none => none
theorem se_move (i : Nat) {x : Str} (hN : X.N[i]? = some x := by rfl) (hv : Vis X.env.scope x := by first | exact Or.inl rfl | exact Or.inr (Or.inl rfl) | exact Or.inr (Or.inr rfl)) (hd : (x == ("__debug__" : Str)) = false := by decide)
    (hcd : (x == ("__classdict__" : Str)) = false := by decide) : SE X (.Name x pos) (eMove i) := by
  refine ⟨pe_imp (pe_var hN hv hd hcd) ?_⟩
  rintro σ H Q ⟨env, F, B, d, env', hS, dj, hf, k⟩
  unfold eMove at hf
  split at hf
  · rename_i y hy
    cases hf
    obtain ⟨v, G, C, e1, r1, s1, s2⟩ := hS.get (En.g_some hy)
    obtain ⟨rp, rfl, rfl⟩ := r1.pure
    exact ⟨v, e1, k v H F B [] Keep.refl hS Nw.self Sb.self r1 (fun _ q => nomatch q) fun _ q => nomatch q⟩
  · rename_i d0 hy _
    split at hf
    · rename_i ho
      cases hf
      obtain ⟨v, G, C, F', B', e1, r1, s1, s2, h1, t1, t2, dj1⟩ := hS.take (En.g_some (by assumption))
      have hC := r1.of_owned ho
      subst hC
      exact ⟨v, e1, k v H F' B' G Keep.refl h1 (fun a q => .inl (t1 a q)) t2 r1 (fun a q => .inl (s1 a q)) dj1⟩
    · cases hf
  · cases hf

/-! ### targets -/
def rG (K : PySem.W.Frag) (fx : Nat → Bool) (t : DV → En → Option En) : TG := fun v σ H R => ∃ env F B d G C env', StR K H σ env F B ∧ Disj F B ∧ Rp K H v d G C ∧ Disj G F ∧ Disj G B ∧ Disj F C ∧ Disj G C ∧ t d env = some env' ∧
  ∀ σ' H' F' B', Keep (F ++ G) H H' → StR K H' σ' env' F' B' → (∀ a ∈ F', a ∈ F ∨ a ∈ G ∨ H a = none) → (∀ a ∈ B', a ∈ B ∨ a ∈ C) → Fx fx σ σ' → R σ' H'
structure STg (X : Cx) (fx : Nat → Bool) (tg : Expr) (t : DV → En → Option En) : Prop where
  pg : PG X tg (rG X.K fx t)
def rGs (K : PySem.W.Frag) (fx : Nat → Bool) (t : List DV → En → Option En) : TGs := fun vs σ H R => ∃ env F B ds G C env', StR K H σ env F B ∧ Disj F B ∧ RpAll K H vs ds G C ∧ Disj G F ∧ Disj G B ∧ Disj F C ∧ Disj G C ∧ t ds env = some env' ∧
  ∀ σ' H' F' B', Keep (F ++ G) H H' → StR K H' σ' env' F' B' → (∀ a ∈ F', a ∈ F ∨ a ∈ G ∨ H a = none) → (∀ a ∈ B', a ∈ B ∨ a ∈ C) → Fx fx σ σ' → R σ' H'
structure STgs (X : Cx) (fx : Nat → Bool) (tgs : List Expr) (t : List DV → En → Option En) : Prop where
  pg : PGs X tgs (rGs X.K fx t)
theorem pg_imp {tg : Expr} {t t' : TG} (h : PG X tg t) (i : ∀ v σ H R, t' v σ H R → t v σ H R) : PG X tg t' := ⟨fun pins s σ H v u R I r hq => h.run pins s σ H v u R I r (i _ _ _ _ hq)⟩
theorem pgs_imp {tg : List Expr} {t t' : TGs} (h : PGs X tg t) (i : ∀ v σ H R, t' v σ H R → t v σ H R) : PGs X tg t' := ⟨fun pins s σ H v u R I r hq => h.run pins s σ H v u R I r (i _ _ _ _ hq)⟩
def gSet (i : Nat) : DV → En → Option En := fun d env => if i < env.length then some (env.set i (some d)) else none
theorem stg_name (i : Nat) {x : Str} (hN : X.N.Nodup) (hi : X.N[i]? = some x := by rfl) (hx : Loc X.env.scope x := by first | exact Or.inl rfl | exact Or.inr rfl) (hf : X.fn x = true ∨ X.env.scope.names.lookup x = some .local := by first | exact .inl rfl | exact .inr rfl) (hfx : fx i = false := by rfl) : STg X fx (.Name x pos) (gSet i) := by
  refine ⟨pg_imp (pg_name hN hi hx hf) ?_⟩
  rintro v σ H R ⟨env, F, B, d, G, C, env', hS, dj, r, d1, d2, c1, c2, ht, k⟩
  unfold gSet at ht
  split at ht
  · rename_i hlt
    cases ht
    obtain ⟨F', B', S', u1, u2⟩ := hS.set hlt r d1
    refine k _ H F' B' Keep.refl S' (fun a q => (u1 a q).elim (fun z => .inr (.inl z)) .inl) (fun a q => (u2 a q).symm) fun j hj => ?_
    rw [List.getElem?_set_ne]
    rintro rfl
    rw [hfx] at hj; cases hj
  · cases ht
def gNil' : List DV → En → Option En := fun ds env => match ds with
  | [] => some env
  | _ => none
def gCons' (t : DV → En → Option En) (u : List DV → En → Option En) : List DV → En → Option En := fun ds env => match ds with
  | d :: r => (t d env).bind (u r)
  | _ => none
theorem stgs_nil : STgs X fx [] gNil' := by
  refine ⟨pgs_imp pgs_nil ?_⟩
  rintro vs σ H R ⟨env, F, B, ds, G, C, env', hS, dj, r, d1, d2, c1, c2, ht, k⟩
  cases r with
  | nil =>
    cases ht
    exact ⟨rfl, k σ H F B Keep.refl hS (fun a q => .inl q) (fun a q => .inl q) Fx.self⟩
  | cons _ _ _ => cases ht
theorem stgs_cons {es : List Expr} {t : DV → En → Option En} {u : List DV → En → Option En} (h : STg X fx e t) (g : STgs X fx es u) (hs : (assignEach (e :: es) X.env).map (·.2) = assign e X.env :: (assignEach es X.env).map (·.2) := by rfl) : STgs X fx (e :: es) (gCons' t u) := by
  refine ⟨pgs_imp (pgs_cons h.pg g.pg hs) ?_⟩
  rintro vs σ H R ⟨env, F, B, ds, G, C, env', hS, dj, r, d1, d2, c1, c2, ht, k⟩
  cases r with
  | nil => cases ht
  | @cons v vs d ds G1 G2 C1 C2 r1 r2 d12 =>
    obtain ⟨e1, h1, h2⟩ := Option.bind_eq_some_iff.mp ht
    have l1 : ∀ a, a ∈ G1 → a ∈ G1 ++ G2 := fun a q => List.mem_append_left _ q
    have l2 : ∀ a, a ∈ G2 → a ∈ G1 ++ G2 := fun a q => List.mem_append_right _ q
    have m1 : ∀ a, a ∈ C1 → a ∈ C1 ++ C2 := fun a q => List.mem_append_left _ q
    have m2 : ∀ a, a ∈ C2 → a ∈ C1 ++ C2 := fun a q => List.mem_append_right _ q
    refine ⟨v, vs, rfl, env, F, B, d, G1, C1, e1, hS, dj, r1, fun a q => d1 a (l1 a q), fun a q => d2 a (l1 a q), fun a q z => c1 a q (m1 a z), fun a q z => c2 a (l1 a q) (m1 a z), h1, ?_⟩
    intro σ1 H1 F1 B1 k1 S1 n1 b1 x1
    have hF : ∀ x ∈ F ++ G1, ∃ o, H x = some o ∧ Mub o := fun x q => (List.mem_append.mp q).elim (hS.own x) (r1.own x)
    have r2' : RpAll X.K H1 vs ds G2 C2 := r2.ext (k1.tups hF) (fun a q => k1.at (let ⟨o, e, _⟩ := r2.own a q; ⟨o, e⟩) fun z => (List.mem_append.mp z).elim (d1 a (l2 a q)) fun z => d12 a z q)
      fun a q => k1.at (r2.lent a q) fun z => (List.mem_append.mp z).elim (fun z => c1 a z (m2 a q)) fun z => c2 a (l1 a z) (m2 a q)
    have o2 : ∀ a ∈ G2, ∃ o, H a = some o := fun a q => let ⟨o, e, _⟩ := r2.own a q; ⟨o, e⟩
    refine ⟨e1, F1, B1, ds, G2, C2, env', S1, fun a q z => ?_, r2', fun a q z => ?_, fun a q z => ?_, fun a q z => ?_, fun a q z => c2 a (l2 a q) (m2 a z), h2, ?_⟩
    · rcases n1 a q with q | q | q
      · exact (b1 a z).elim (dj a q) fun z => c1 a q (m1 a z)
      · exact (b1 a z).elim (d2 a (l1 a q)) fun z => c2 a (l1 a q) (m1 a z)
      · obtain ⟨o, e⟩ := (b1 a z).elim (hS.lent a) (r1.lent a)
        rw [q] at e; cases e
    · rcases n1 a z with z | z | z
      · exact d1 a (l2 a q) z
      · exact d12 a z q
      · obtain ⟨o, e⟩ := o2 a q
        rw [z] at e; cases e
    · exact (b1 a z).elim (d2 a (l2 a q)) fun z => c2 a (l2 a q) (m1 a z)
    · rcases n1 a q with q | q | q
      · exact c1 a q (m2 a z)
      · exact c2 a (l1 a q) (m2 a z)
      · obtain ⟨o, e⟩ := r2.lent a z
        rw [q] at e; cases e
    · intro σ2 H2 F2 B2 k2 S2 n2 b2 x2
      have sub : ∀ x ∈ F1 ++ G2, x ∈ F ++ (G1 ++ G2) ∨ H x = none := fun x q => by
        rcases List.mem_append.mp q with q | q
        · rcases n1 x q with q | q | q
          · exact .inl (List.mem_append_left _ q)
          · exact .inl (List.mem_append_right _ (l1 x q))
          · exact .inr q
        · exact .inl (List.mem_append_right _ (l2 x q))
      have k1' : Keep (F ++ (G1 ++ G2)) H H1 := fun b o eo nb => k1 b o eo fun z => nb ((List.mem_append.mp z).elim (fun z => List.mem_append_left _ z) fun z => List.mem_append_right _ (l1 b z))
      refine k σ2 H2 F2 B2 (k1'.trans k2 sub) S2 (fun a q => ?_) (fun a q => ?_) (x1.trans x2)
      · rcases n2 a q with q | q | q
        · rcases n1 a q with q | q | q
          · exact .inl q
          · exact .inr (.inl (l1 a q))
          · exact .inr (.inr q)
        · exact .inr (.inl (l2 a q))
        · rcases nw_upd k1' q with q | q
          · exact (List.mem_append.mp q).imp id .inl
          · exact .inr (.inr q)
      · rcases b2 a q with q | q
        · exact (b1 a q).imp id (m1 a)
        · exact .inr (m2 a q)
  
def DV.comps : DV → Option (List DV)
  | .p (.tup xs) => some (xs.map .p)
  | .mt ds => some ds
  | _ => none
theorem comps_ok {K : PySem.W.Frag} {H : Hp} {v : V} {d : DV} {ds : List DV} {G C : Fp} (r : Rp K H v d G C) (e : d.comps = some ds) : ∃ p vs, v = .ref p ∧ SqT K H p vs ∧ RpAll K H vs ds G C := by
  cases r with
  | p r =>
    cases r with
    | tup t r => cases e; exact ⟨_, _, rfl, t.seq, RpAll.of_pure r⟩
    | _ => cases e
  | mt t r => cases e; exact ⟨_, _, rfl, t.seq, r⟩
  | _ => cases e
def gTup' (n : Nat) (t : List DV → En → Option En) : DV → En → Option En := fun d env => d.comps.bind fun ds => if ds.length = n then t ds env else none
theorem stg_tup {es : List Expr} {kk n : Nat} {t : List DV → En → Option En} (h : STgs X fx es t) (hc : X.calm = true := by rfl) (hn : (assignEach es X.env).length = n := by rfl) (hst : (assignEach es X.env).findIdx? (·.1) = none := by rfl) : STg X fx (.Tuple es kk pos) (gTup' n t) := by
  refine ⟨pg_imp (pg_tup hc h.pg hn hst) ?_⟩
  rintro v σ H R ⟨env, F, B, d, G, C, env', hS, dj, r, d1, d2, c1, c2, ht, k⟩
  obtain ⟨ds, h1, h2⟩ := Option.bind_eq_some_iff.mp ht
  split at h2
  · rename_i hl
    obtain ⟨p, vs, rfl, hT, ra⟩ := comps_ok r h1
    exact ⟨p, vs, rfl, hT, by rw [ra.length]; exact hl, env, F, B, ds, G, C, env', hS, dj, ra, d1, d2, c1, c2, h2, k⟩
  · cases h2

/-! ### assignments -/
def sAsg (f : En → Option (DV × En)) (t : DV → En → Option En) : Bk := fun env => (f env).bind fun x => (t x.1 x.2).map .nx
theorem asg_go {K : PySem.W.Frag} {f : En → Option (DV × En)} {t : DV → En → Option En} {D : Ends} {σ : Sg} {H : Hp} (h : rS K fx (sAsg f t) D σ H) : tAsg (rE K f) (rG K fx t) D σ H := by
  obtain ⟨env, F, B, o, hS, dj, hb, k⟩ := h
  obtain ⟨⟨d, e1⟩, h1, h2⟩ := Option.bind_eq_some_iff.mp hb
  obtain ⟨e2, h3, rfl⟩ := Option.map_eq_some_iff.mp h2
  refine ⟨env, F, B, d, e1, hS, dj, h1, fun v H1 F1 B1 G k1 S1 n1 b1 r g d1 => ?_⟩
  have gB : ∀ a, a ∈ G → a ∉ B1 := fun a q z => by
    rcases g a q with q | q
    · exact dj a q (b1 a z)
    · obtain ⟨o, e⟩ := hS.lent a (b1 a z)
      rw [q] at e; cases e
  refine ⟨e1, F1, B1, d, G, [], e2, S1, dj_of hS dj n1 b1, r, d1, gB, (fun _ _ z => nomatch z), (fun _ _ z => nomatch z), h3, fun σ2 H2 F2 B2 k2 S2 n2 b2 x2 => ?_⟩
  have sub : ∀ x ∈ F1 ++ G, x ∈ F ∨ H x = none := fun x q => (List.mem_append.mp q).elim (n1 x) (g x)
  refine k σ2 H2 F2 B2 (k1.trans k2 sub) S2 (fun a q => ?_) (fun a q => (b2 a q).elim (b1 a) fun z => nomatch z) x2
  rcases n2 a q with q | q | q
  · exact n1 a q
  · exact g a q
  · exact nw_upd k1 q
theorem ss_asg {tg : Expr} {f : En → Option (DV × En)} {t : DV → En → Option En} (he : SE X e f) (hg : STg X fx tg t) (hs : swapsWithSole [tg] e pos.line X.env = pure false := by rfl) (hw : swappedStores [tg] e X.env = pure none := by rfl)
    (h1 : (assignEach [tg] X.env).map (·.2) = [assign tg X.env] := by rfl) : SS X fx (.Assign [tg] e pos) (sAsg f t) :=
  ⟨ps_imp (ps_asg he.pe hg.pg hs hw h1) fun D σ H => asg_go⟩
theorem set_go {K : PySem.W.Frag} {i : Nat} {f : En → Option (DV × En)} {D : Ends} {σ : Sg} {H : Hp} (hfx : fx i = false) (h : rS K fx (sAsg f (gSet i)) D σ H) : rE K f σ H fun x H1 => gName i x σ H1 D.nx := by
  obtain ⟨env, F, B, o, hS, dj, hb, k⟩ := h
  obtain ⟨⟨d, e1⟩, h1, h2⟩ := Option.bind_eq_some_iff.mp hb
  obtain ⟨e2, h3, rfl⟩ := Option.map_eq_some_iff.mp h2
  refine ⟨env, F, B, d, e1, hS, dj, h1, fun v H1 F1 B1 G k1 S1 n1 b1 r g d1 => ?_⟩
  unfold gSet at h3
  split at h3
  · rename_i hlt
    cases h3
    obtain ⟨F', B', S', u1, u2⟩ := S1.set hlt r d1
    refine k _ H1 F' B' k1 S' (fun a q => (u1 a q).elim (g a) (n1 a)) (fun a q => (u2 a q).elim (fun z => nomatch z) (b1 a)) fun j hj => ?_
    rw [List.getElem?_set_ne]
    rintro rfl
    rw [hfx] at hj; cases hj
  · cases h3
theorem ss_set (i : Nat) {x : Str} {p : Pos} {f : En → Option (DV × En)} (hN : X.N.Nodup) (he : SE X e f) (hi : X.N[i]? = some x := by rfl) (hx : Loc X.env.scope x := by first | exact Or.inl rfl | exact Or.inr rfl)
    (hs : swapsWith e (some (.Name x p)) pos.line X.env = pure false := by rfl) (hf : X.fn x = true ∨ X.env.scope.names.lookup x = some .local := by first | exact .inl rfl | exact .inr rfl) (hfx : fx i = false := by rfl) : SS X fx (.Assign [.Name x p] e pos) (sAsg f (gSet i)) := by
  refine ⟨ps_imp (ps_set hN hi hx he.pe hs hf) fun D σ H h => ?_⟩
  have z := asg_go (K := X.K) h
  -- the target's reading
  obtain ⟨env, F, B, o, hS, dj, hb, k⟩ := h
  obtain ⟨⟨d, e1⟩, h1, h2⟩ := Option.bind_eq_some_iff.mp hb
  obtain ⟨e2, h3, rfl⟩ := Option.map_eq_some_iff.mp h2
  refine ⟨env, F, B, d, e1, hS, dj, h1, fun v H1 F1 B1 G k1 S1 n1 b1 r g d1 => ?_⟩
  unfold gSet at h3
  split at h3
  · rename_i hlt
    cases h3
    obtain ⟨F', B', S', u1, u2⟩ := S1.set hlt r d1
    refine k _ H1 F' B' k1 S' (fun a q => (u1 a q).elim (g a) (n1 a)) (fun a q => (u2 a q).elim (fun z => nomatch z) (b1 a)) fun j hj => ?_
    rw [List.getElem?_set_ne]
    rintro rfl
    rw [hfx] at hj; cases hj
  · cases h3
/-- two, three names from a written tuple -/
theorem comps_mkT {ds : List DV} {d : DV} (h : mkT ds = some d) : d.comps = some ds := by
  unfold mkT at h
  split at h
  · split at h
    · rename_i xs hx
      cases h
      have : ∀ {ds : List DV} {xs : List PV}, pures ds = some xs → xs.map DV.p = ds := by
        intro ds
        induction ds with
        | nil => intro xs e; cases e; rfl
        | cons d ds ih =>
          intro xs e
          cases d with
          | p y =>
            obtain ⟨ys, e1, rfl⟩ := Option.map_eq_some_iff.mp e
            simp [ih e1]
          | _ => cases e
      show some _ = some ds
      rw [this hx]
    · cases h; rfl
  · cases h
theorem RpAll.two2 {K : PySem.W.Frag} {H : Hp} {vs : List V} {d e : DV} {G : Fp} (h : RpAll K H vs [d, e] G []) : ∃ v w G1 G2, vs = [v, w] ∧ Rp K H v d G1 [] ∧ Rp K H w e G2 [] ∧ Disj G1 G2 ∧ (∀ a ∈ G1, a ∈ G) ∧ ∀ a ∈ G2, a ∈ G := by
  generalize hC : ([] : Fp) = C at h
  cases h with
  | @cons v ws _ _ G1 G2 C1 C2 r1 rr dd =>
    cases rr with
    | @cons w us _ _ G3 G4 C3 C4 r2 r3 dd2 =>
      cases r3
      have e1 : C1 = [] := by
        cases C1 with
        | nil => rfl
        | cons _ _ => simp at hC
      subst e1
      have e3 : C3 = [] := by
        cases C3 with
        | nil => rfl
        | cons _ _ => simp at hC
      subst e3
      exact ⟨v, w, G1, G3, rfl, r1, r2, fun a q z => dd a q (List.mem_append_left _ z), fun a q => List.mem_append_left _ q, fun a q => List.mem_append_right _ (List.mem_append_left _ q)⟩
def gSets : List Nat → List DV → En → Option En
  | [], [], env => some env
  | i :: is, d :: ds, env => if i < env.length then gSets is ds (env.set i (some d)) else none
  | _, _, _ => none
def sPar (is : List Nat) (f : En → Option (List DV × En)) : Bk := fun env => (f env).bind fun x => (gSets is x.1 x.2).map .nx
theorem ss_par2 (i j : Nat) {x y : Str} {px py pt : Pos} {kt k2 pt2} {f : En → Option (List DV × En)} (hN : X.N.Nodup) (ha : SAE X [a, b] f) (hc : X.calm = true := by rfl) (hi : X.N[i]? = some x := by rfl) (hj : X.N[j]? = some y := by rfl) (hij : i ≠ j := by decide)
    (hx : X.env.scope.names.lookup x = some .local := by rfl) (hy : X.env.scope.names.lookup y = some .local := by rfl)
    (hw : swappedStores [.Tuple [.Name x px, .Name y py] kt pt] (.Tuple [a, b] k2 pt2) X.env = pure (some [x, y]) := by rfl)
    (hs : swapsWithSole [.Tuple [.Name x px, .Name y py] kt pt] (.Tuple [a, b] k2 pt2) pos.line X.env = pure false := by rfl) (hfx : fx i = false := by rfl) (hfy : fx j = false := by rfl) :
    SS X fx (.Assign [.Tuple [.Name x px, .Name y py] kt pt] (.Tuple [a, b] k2 pt2) pos) (sPar [i, j] f) := by
  refine ⟨ps_imp (ps_par hc hN hi hj hij hx hy ha.pa hw hs) fun D σ H h => ?_⟩
  obtain ⟨env, F, B, o, hS, dj, hb, k⟩ := h
  obtain ⟨⟨ds, e1⟩, h1, h2⟩ := Option.bind_eq_some_iff.mp hb
  obtain ⟨e2, h3, rfl⟩ := Option.map_eq_some_iff.mp h2
  refine ⟨env, F, B, ds, e1, hS, dj, h1, fun vs H1 F1 B1 G k1 S1 n1 b1 r g d1 => ?_⟩
  cases ds with
  | nil => simp [gSets] at h3
  | cons d ds =>
    cases ds with
    | nil => simp [gSets] at h3
    | cons d' ds =>
      cases ds with
      | cons _ _ => simp [gSets] at h3
      | nil =>
        simp only [gSets] at h3
        split at h3
        · rename_i l1
          split at h3
          · rename_i l2
            cases h3
            obtain ⟨v, w, G1, G3, rfl, r1, r2, dd, g1, g3⟩ := RpAll.two2 r
            refine ⟨v, w, rfl, ?_⟩
            obtain ⟨F2, B2, S2, u1, u2⟩ := S1.set l1 r1 fun a q => d1 a (g1 a q)
            obtain ⟨F3, B3, S3, u3, u4⟩ := S2.set l2 r2 fun a q z => by
              rcases u1 a z with z | z
              · exact dd a z q
              · exact d1 a (g3 a q) z
            refine k _ H1 F3 B3 k1 S3 (fun a q => ?_) (fun a q => ?_) fun l hl => ?_
            · rcases u3 a q with q | q
              · exact g a (g3 a q)
              · rcases u1 a q with q | q
                · exact g a (g1 a q)
                · exact n1 a q
            · rcases u4 a q with q | q
              · cases q
              · rcases u2 a q with q | q
                · cases q
                · exact b1 a q
            · rw [List.getElem?_set_ne (by rintro rfl; rw [hfy] at hl; cases hl), List.getElem?_set_ne (by rintro rfl; rw [hfx] at hl; cases hl)]
          · cases h3
        · cases h3
/-- .. where the compiler builds the tuple -/
theorem gTup_sets {is : List Nat} {ds : List DV} {d : DV} {env : En} (h : mkT ds = some d) (u : List DV → En → Option En) (hu : ∀ ds env, u ds env = gSets is ds env) (n : Nat) (hn : ds.length = n) : gTup' n u d env = gSets is ds env := by
  unfold gTup'
  rw [comps_mkT h]
  show (if ds.length = n then u ds env else none) = _
  rw [if_pos hn, hu]
end
end Sm

set_option Elab.async false
set_option linter.all false
set_option maxRecDepth 100000
/-! S5: what is walked, for, while, names locked while they are walked, changes of lists in place. -/
namespace Sm
open PySem PySem.Spec PyProof.Rows L2
mutual
def DV.light : DV → Bool
  | .p _ => true
  | .ro _ => true
  | .fz _ => true
  | .rod _ => true
  | .mr _ => true
  | .mt ds => DV.lights ds
  | _ => false
def DV.lights : List DV → Bool
  | [] => true
  | d :: ds => d.light && DV.lights ds
end
mutual
theorem Rp.of_light {K : PySem.W.Frag} {H : Hp} : ∀ {v : V} {d : DV} {F B : Fp}, Rp K H v d F B → d.light = true → F = []
  | _, _, _, _, .p _, _ => rfl
  | _, _, _, _, .lst _ _, e => by simp [DV.light] at e
  | _, _, _, _, .ro _ _, _ => rfl
  | _, _, _, _, .fz _ _, _ => rfl
  | _, _, _, _, .fk _ _, _ => rfl
  | _, _, _, _, .dic _ _, e => by simp [DV.light] at e
  | _, _, _, _, .rod _ _ _, _ => rfl
  | _, _, _, _, .ml _ _ _ _, e => by simp [DV.light] at e
  | _, _, _, _, .mr _ _, _ => rfl
  | _, _, _, _, .mt _ h, e => RpAll.of_light h (by simpa [DV.light] using e)
theorem RpAll.of_light {K : PySem.W.Frag} {H : Hp} : ∀ {vs : List V} {ds : List DV} {F B : Fp}, RpAll K H vs ds F B → DV.lights ds = true → F = []
  | _, _, _, _, .nil, _ => rfl
  | _, _, _, _, .cons h r _, e => by
    simp [DV.lights] at e
    rw [Rp.of_light h e.1, RpAll.of_light r e.2]
    rfl
end
/-- the names that hold nothing of their own -/
def lightE (env : En) : En := env.map fun o => match o with
  | some d => if d.light then some d else none
  | none => none
theorem StR.light {K : PySem.W.Frag} {H : Hp} {σ : Sg} {env : En} {F B : Fp} (h : StR K H σ env F B) : ∃ B', StR K H σ (lightE env) [] B' ∧ ∀ a ∈ B', a ∈ B := by
  induction h with
  | nil => exact ⟨[], .nil, fun _ q => q⟩
  | non h ih =>
    obtain ⟨B', h', s⟩ := ih
    exact ⟨B', .non h', s⟩
  | @som v d σ env F G B C r h dj ih =>
    obtain ⟨B', h', s⟩ := ih
    by_cases hl : d.light = true
    · have e := r.of_light hl
      subst e
      refine ⟨B ++ B', ?_, fun a q => ?_⟩
      · show StR K H _ ((match some d with | some d => if d.light then some d else none | none => none) :: lightE env) [] _
        simp only [hl, if_true]
        exact .som (F := []) (G := []) r h' fun _ q => nomatch q
      · exact (List.mem_append.mp q).elim (List.mem_append_left _) fun z => List.mem_append_right _ (s a z)
    · refine ⟨B', ?_, fun a q => List.mem_append_right _ (s a q)⟩
      show StR K H _ ((match some d with | some d => if d.light then some d else none | none => none) :: lightE env) [] _
      simp only [hl]
      exact .non h'
/-- quiet, and lent from what is lent alone -/
def rR (K : PySem.W.Frag) (q : En → Option DV) : TE := fun σ H Q => ∃ env F B d, StR K H σ env F B ∧ Disj F B ∧ q env = some d ∧
  ∀ v H' G C, Same H H' → Rp K H' v d G C → (∀ a ∈ G, H a = none) → (∀ a ∈ C, a ∈ B) → Q v H'
structure SR (X : Cx) (e : Expr) (q : En → Option DV) : Prop where
  pe : PE X e (rR X.K q)
def qO (q : En → Option DV) : En → Option DV := fun env => (q env).bind fun d => if d.owned then some d else none
def qF (q : En → Option DV) : En → Option DV := fun env => q (lightE env)
section
variable {X : Cx} {fx : Nat → Bool} {st : Stmt} {a b e : Expr} {tg iter : Expr} {pos : Pos}
theorem sr_o {q : En → Option DV} (h : SQ X e q) : SR X e (qO q) := by
  refine ⟨pe_imp h.pe ?_⟩
  rintro σ H Q ⟨env, F, B, d, hS, dj, hq, k⟩
  obtain ⟨d', h1, h2⟩ := Option.bind_eq_some_iff.mp hq
  split at h2
  · rename_i ho
    cases h2
    refine ⟨env, F, B, _, hS, dj, h1, fun v H' G C sm r n c => k v H' G C sm r n fun a q => ?_⟩
    rw [r.of_owned ho] at q; cases q
  · cases h2
theorem sr_f {q : En → Option DV} (h : SQ X e q) : SR X e (qF q) := by
  refine ⟨pe_imp h.pe ?_⟩
  rintro σ H Q ⟨env, F, B, d, hS, dj, hq, k⟩
  obtain ⟨B', h', s⟩ := hS.light
  exact ⟨lightE env, [], B', d, h', (fun _ q => nomatch q), hq, fun v H' G C sm r n c => k v H' G C sm r n fun a q => (c a q).elim (fun z => nomatch z) (s a)⟩
/-! ### what is walked -/
def ItR (K : PySem.W.Frag) (H0 : Hp) (J : It) (ds : List DV) (C Ci : Fp) : Prop := ∀ (i : Nat) (H : Hp), TupKeep H0 H → (∀ a ∈ C, H a = H0 a) → (∀ a ∈ Ci, H a = H0 a) →
  (ds.length ≤ i → J.stop i H) ∧ ∀ d, ds[i]? = some d → J.go i H ∧ ∀ x H', J.yld i H x H' → Same H H' ∧ ∃ C', Rp K H' x d [] C' ∧ ∀ a ∈ C', a ∈ Ci
def rIt (K : PySem.W.Frag) (f : En → Option (List DV × En)) : TI := fun σ H R => ∃ env F B ds env', StR K H σ env F B ∧ Disj F B ∧ f env = some (ds, env') ∧
  ∀ J H' F' B' C Ci, Keep F H H' → StR K H' σ env' F' B' → Nw F H F' → Sb B B' → (∀ a ∈ C, a ∉ F' ∧ ∃ o, H' a = some o) → Sb B' Ci → ItR K H' J ds C Ci → R J H'
structure SI (X : Cx) (tg iter : Expr) (f : En → Option (List DV × En)) : Prop where
  pi : PI X tg iter (rIt X.K f)
theorem pi_imp {tg e : Expr} {t t' : TI} (h : PI X tg e t) (i : ∀ σ H Q, t' σ H Q → t σ H Q) : PI X tg e t' := ⟨fun pins s σ H Q I hq => h.run pins s σ H Q I (i _ _ _ hq)⟩
def iSeq (K : PySem.W.Frag) (tl : TE) : TI := fun σ H R => tl σ H fun x H1 => (∃ a, x = .ref a ∧ (∃ xs, SqL K H1 a xs) ∧ R (Itl K a) H1) ∨ (∃ a, x = .ref a ∧ (∃ xs, SqT K H1 a xs) ∧ R (Itt K a) H1)
theorem pi_seq {l : Expr} {tl : TE} (hl : PE X l tl) : PI X tg l (iSeq X.K tl) := by
  refine ⟨fun pins s σ H R I h => ?_⟩
  refine thn (hl.run pins s σ H _ I h) fun v s1 ⟨x, H1, I1, r1, q1⟩ => ?_
  rcases q1 with ⟨a, e, ⟨xs, hq⟩, q⟩ | ⟨a, e, ⟨xs, hq⟩, q⟩
  · subst e
    cases r1
    obtain ⟨its, rv, p, hz⟩ := I1.list hq
    refine wpAny_pyIter_list p.isList ?_
    refine ⟨s1.heap.objs.size, [s1.heap.objs.size], _, _, H1, rfl, I1.kept (t' := s1.toks) fun b o e => Heap.get?_push_of_some _ e, turn_list a _, ⟨_, Heap.get?_push_size _ rfl, rfl, rfl⟩, fun b hb => ?_, q⟩
    have e : b = s1.heap.objs.size := by simpa using hb
    subst e
    exact I1.fpOk (Nat.le_refl _) (I1.hok.fresh (Nat.le_refl _))
  · subst e
    cases r1
    obtain ⟨its, rv, p, hz⟩ := I1.tuple hq
    refine wpAny_pyIter_tuple (show s1.heap.IsTuple a its.toArray from p) ?_
    refine ⟨s1.heap.objs.size, [s1.heap.objs.size], _, _, H1, rfl, I1.kept (t' := s1.toks) fun b o e => Heap.get?_push_of_some _ e, turn_tuple a _, ⟨_, Heap.get?_push_size _ rfl, rfl, rfl⟩, fun b hb => ?_, q⟩
    have e : b = s1.heap.objs.size := by simpa using hb
    subst e
    exact I1.fpOk (Nat.le_refl _) (I1.hok.fresh (Nat.le_refl _))
def DV.itm : DV → Option (List DV)
  | .p (.tup xs) => some (xs.map .p)
  | .lst xs => some (xs.map .p)
  | .ro xs => some (xs.map .p)
  | .fz xs => some (xs.map .p)
  | .mr ds => some ds
  | _ => none
theorem itr_list {K : PySem.W.Frag} {H0 : Hp} {a : Addr} {vs : List V} {ds : List DV} {Ci C : Fp} (hl : SqL K H0 a vs) (ho : ∃ o, H0 a = some o) (r : RpAll K H0 vs ds [] Ci) (ha : a ∈ C) : ItR K H0 (Itl K a) ds C Ci := by
  intro i H k hC hCi
  have hl' : SqL K H a vs := by
    rcases hl with (h | ⟨o, h⟩) | h
    · exact .inl (.inl ((hC a ha).trans h))
    · exact .inl (.inr ⟨o, (hC a ha).trans h⟩)
    · exact .inr h
  refine ⟨fun hi => ⟨vs, hl', by rw [r.length]; exact hi⟩, fun d hd => ?_⟩
  obtain ⟨v, G1, C1, e1, r1, s1, s2⟩ := r.get hd
  refine ⟨⟨vs, v, hl', e1⟩, fun x H' hy => ?_⟩
  obtain ⟨rfl, hy⟩ := hy
  have ex : x = v := Option.some.inj ((hy vs hl').symm.trans e1)
  subst ex
  rw [nil_of_sub s1] at r1
  exact ⟨Same.refl _, C1, r1.ext k (fun _ q => nomatch q) fun a q => hCi a (s2 a q), s2⟩
theorem itr_listK {K : PySem.W.Frag} {H0 : Hp} {a : Addr} {vs : List V} {ds : List DV} {Ci C : Fp} (hl : KL K a vs) (r : RpAll K H0 vs ds [] Ci) : ItR K H0 (Itl K a) ds C Ci := by
  intro i H k hC hCi
  have hl' : SqL K H a vs := hl.seq H
  refine ⟨fun hi => ⟨vs, hl', by rw [r.length]; exact hi⟩, fun d hd => ?_⟩
  obtain ⟨v, G1, C1, e1, r1, s1, s2⟩ := r.get hd
  refine ⟨⟨vs, v, hl', e1⟩, fun x H' hy => ?_⟩
  obtain ⟨rfl, hy⟩ := hy
  have ex : x = v := Option.some.inj ((hy vs hl').symm.trans e1)
  subst ex
  rw [nil_of_sub s1] at r1
  exact ⟨Same.refl _, C1, r1.ext k (fun _ q => nomatch q) fun a q => hCi a (s2 a q), s2⟩
theorem itr_tup {K : PySem.W.Frag} {H0 : Hp} {a : Addr} {vs : List V} {ds : List DV} {Ci C : Fp} (hl : TupAt K H0 a vs) (r : RpAll K H0 vs ds [] Ci) : ItR K H0 (Itt K a) ds C Ci := by
  intro i H k hC hCi
  have hl' : SqT K H a vs := (hl.ext k).seq
  refine ⟨fun hi => ⟨vs, hl', by rw [r.length]; exact hi⟩, fun d hd => ?_⟩
  obtain ⟨v, G1, C1, e1, r1, s1, s2⟩ := r.get hd
  refine ⟨⟨vs, v, hl', e1⟩, fun x H' hy => ?_⟩
  obtain ⟨rfl, hy⟩ := hy
  have ex : x = v := Option.some.inj ((hy vs hl').symm.trans e1)
  subst ex
  rw [nil_of_sub s1] at r1
  exact ⟨Same.refl _, C1, r1.ext k (fun _ q => nomatch q) fun a q => hCi a (s2 a q), s2⟩
def fSeq (q : En → Option DV) : En → Option (List DV × En) := fun env => (q env).bind fun d => d.itm.map fun ds => (ds, env)
theorem si_seq {q : En → Option DV} (h : SR X iter q) : SI X tg iter (fSeq q) := by
  refine ⟨pi_imp (pi_seq h.pe) ?_⟩
  rintro σ H R ⟨env, F, B, ds, env', hS, dj, hf, k⟩
  obtain ⟨d, h1, h2⟩ := Option.bind_eq_some_iff.mp hf
  obtain ⟨ds', h3, h4⟩ := Option.map_eq_some_iff.mp h2
  cases h4
  refine ⟨env, F, B, d, hS, dj, h1, fun v H' G C sm r n c => ?_⟩
  have fr : ∀ a, a ∈ G → a ∉ F := fun a q z => by
    obtain ⟨o, e, _⟩ := hS.own a z
    rw [n a q] at e; cases e
  cases r with
  | p r =>
    cases r with
    | tup t r =>
      cases h3
      exact .inr ⟨_, rfl, ⟨_, t.seq⟩, k _ H' F B [] [] sm.keep (hS.same sm) Nw.self Sb.self (fun _ q => nomatch q) (fun _ q => nomatch q) (itr_tup t (RpAll.of_pure r))⟩
    | _ => cases h3
  | @lst a0 ws ys h r =>
    cases h3
    refine .inl ⟨_, rfl, ⟨_, .of h⟩, k _ H' F B [a0] [] sm.keep (hS.same sm) Nw.self Sb.self (fun a q => ?_) (fun _ q => nomatch q) (itr_list (.of h) ⟨_, h⟩ (RpAll.of_pure r) (by simp))⟩
    simp at q
    subst q
    exact ⟨fr a (by simp), _, h⟩
  | @ro a0 ws ys h r =>
    cases h3
    refine .inl ⟨_, rfl, ⟨_, .of h⟩, k _ H' F B [a0] [] sm.keep (hS.same sm) Nw.self Sb.self (fun a q => ?_) (fun _ q => nomatch q) (itr_list (.of h) ⟨_, h⟩ (RpAll.of_pure r) (by simp))⟩
    simp at q
    subst q
    exact ⟨fun z => dj a z (c a (by simp)), _, h⟩
  | @fk a0 ws ys h r =>
    cases h3
    exact .inl ⟨_, rfl, ⟨_, h.seq H'⟩, k _ H' F B [] [] sm.keep (hS.same sm) Nw.self Sb.self (fun _ q => nomatch q) (fun _ q => nomatch q) (itr_listK h (RpAll.of_pure r))⟩
  | @fz a0 o ws ys h r =>
    cases h3
    refine .inl ⟨_, rfl, ⟨_, .inl (.inr ⟨_, h⟩)⟩, k _ H' F B [a0] [] sm.keep (hS.same sm) Nw.self Sb.self (fun a q => ?_) (fun _ q => nomatch q) (itr_list (.inl (.inr ⟨_, h⟩)) ⟨_, h⟩ (RpAll.of_pure r) (by simp))⟩
    simp at q
    subst q
    exact ⟨fun z => dj a z (c a (by simp)), _, h⟩
  | @mr a0 ws ys B0 h r =>
    cases h3
    refine .inl ⟨_, rfl, ⟨_, .of h⟩, k _ H' F B [a0] B0 sm.keep (hS.same sm) Nw.self Sb.self (fun a q => ?_) (fun a q => c a (List.mem_cons_of_mem _ q)) (itr_list (.of h) ⟨_, h⟩ r (by simp))⟩
    simp at q
    subst q
    exact ⟨fun z => dj a z (c a (by simp)), _, h⟩
  | _ => cases h3
/-- range(n), range(a, b): the bounds as the walk wants them -/
def rngOk (n : Int) : Bool := lg 40 n
theorem rngOk_ok {n : Int} (h : rngOk n = true) : -(2 ^ 62) ≤ n ∧ n < 2 ^ 62 := by
  have h := lg_lt h (by decide)
  omega
def rgD (a b : Int) : List DV := (rgP a b).map .p
theorem rgD_get {a b : Int} {i : Nat} {d : DV} (h : (rgD a b)[i]? = some d) : i < (b - a).toNat ∧ d = .p (.int (a + (i : Nat))) := by
  unfold rgD rgP at h
  rw [List.getElem?_map, List.getElem?_map] at h
  obtain ⟨x, h1, rfl⟩ := Option.map_eq_some_iff.mp h
  obtain ⟨y, h2, rfl⟩ := Option.map_eq_some_iff.mp h1
  obtain ⟨h3, h4⟩ := List.getElem?_eq_some_iff.mp h2
  rw [List.length_range] at h3
  rw [List.getElem_range] at h4
  subst h4
  exact ⟨h3, rfl⟩
theorem rgD_length (a b : Int) : (rgD a b).length = (b - a).toNat := by simp [rgD, rgP]
theorem itr_rng {K : PySem.W.Frag} {H0 : Hp} (a b : Int) : ItR K H0 (Itr a (b - a).toNat) (rgD a b) [] [] := by
  intro i H k _ _
  refine ⟨fun hi => by rw [rgD_length] at hi; exact hi, fun d hd => ?_⟩
  obtain ⟨h1, rfl⟩ := rgD_get hd
  refine ⟨h1, fun x H' hy => ?_⟩
  obtain ⟨rfl, rfl⟩ := hy
  exact ⟨Same.refl _, [], .p (.int _), fun _ q => nomatch q⟩
def fRng1 (f : En → Option (List DV × En)) : En → Option (List DV × En) := fun env => (f env).bind fun x => match x.1 with
  | [.p (.int n)] => if rngOk n then some (rgD 0 n, x.2) else none
  | _ => none
def fRng2 (f : En → Option (List DV × En)) : En → Option (List DV × En) := fun env => (f env).bind fun x => match x.1 with
  | [.p (.int m), .p (.int n)] => if rngOk m && rngOk n then some (rgD m n, x.2) else none
  | _ => none
theorem RpAll.one' {K : PySem.W.Frag} {H : Hp} {vs : List V} {d : DV} {G C : Fp} (h : RpAll K H vs [d] G C) : ∃ v, vs = [v] ∧ Rp K H v d G C := by
  cases h with
  | cons a b c => cases b; exact ⟨_, rfl, by simpa using a⟩
theorem si_rng1 {p : Pos} {f : En → Option (List DV × En)} (ha : SAE X [a] f) (hm : X.mg "range" = none) (hg : Gl X "range" := by rfl) (hs : starEach [a] X.env = [(false, eval a X.env)] := by rfl) : SI X tg (.Call (.Name "range" p) [a] [] pos) (fRng1 f) := by
  refine ⟨pi_imp (pi_range1 hg hm ha.pa hs) ?_⟩
  rintro σ H R ⟨env, F, B, ds, env', hS, dj, hf, k⟩
  obtain ⟨⟨as, e1⟩, h1, h2⟩ := Option.bind_eq_some_iff.mp hf
  refine ⟨env, F, B, as, e1, hS, dj, h1, fun vs H' F' B' G k1 S1 n1 b1 r g d1 => ?_⟩
  dsimp only at h2
  split at h2
  · split at h2
    · rename_i n hn
      cases h2
      obtain ⟨v, rfl, r1⟩ := RpAll.one' r
      obtain ⟨rp, _, _⟩ := r1.pure
      cases rp
      obtain ⟨b1', b2'⟩ := rngOk_ok hn
      refine ⟨_, rfl, b1', b2', ?_⟩
      have := k (Itr 0 (n - 0).toNat) H' F' B' [] [] k1 S1 n1 b1 (fun _ q => nomatch q) (fun _ q => nomatch q) (itr_rng 0 n)
      rw [Int.sub_zero] at this
      exact this
    · cases h2
  · cases h2
theorem si_rng2 {p : Pos} {f : En → Option (List DV × En)} (ha : SAE X [a, b] f) (hm : X.mg "range" = none) (hg : Gl X "range" := by rfl) (hs : starEach [a, b] X.env = [(false, eval a X.env), (false, eval b X.env)] := by rfl) (hs2 : starEach [b] X.env = [(false, eval b X.env)] := by rfl) : SI X tg (.Call (.Name "range" p) [a, b] [] pos) (fRng2 f) := by
  refine ⟨pi_imp (pi_range2 hg hm ha.pa hs hs2) ?_⟩
  rintro σ H R ⟨env, F, B, ds, env', hS, dj, hf, k⟩
  obtain ⟨⟨as, e1⟩, h1, h2⟩ := Option.bind_eq_some_iff.mp hf
  refine ⟨env, F, B, as, e1, hS, dj, h1, fun vs H' F' B' G k1 S1 n1 b1 r g d1 => ?_⟩
  dsimp only at h2
  split at h2
  · split at h2
    · rename_i m n hn
      cases h2
      rw [Bool.and_eq_true] at hn
      obtain ⟨v, w, G1, G3, rfl, r1, r2, _, _, _⟩ := RpAll.two2 r
      obtain ⟨rp, _, _⟩ := r1.pure
      cases rp
      obtain ⟨rp, _, _⟩ := r2.pure
      cases rp
      obtain ⟨b1', b2'⟩ := rngOk_ok hn.1
      obtain ⟨b3', b4'⟩ := rngOk_ok hn.2
      exact ⟨_, _, rfl, ⟨b1', b2', b3', b4'⟩, k (Itr m (n - m).toNat) H' F' B' [] [] k1 S1 n1 b1 (fun _ q => nomatch q) (fun _ q => nomatch q) (itr_rng m n)⟩
    · cases h2
  · cases h2

/-! ### for -/
def forL (t : DV → En → Option En) (b : Bk) : List DV → Bk
  | [], env => some (.nx env)
  | d :: ds, env => match t d env with
    | none => none
    | some e1 => match b e1 with
      | some (.nx e2) => forL t b ds e2
      | some (.ct e2) => forL t b ds e2
      | some (.bk e2) => some (.nx e2)
      | some (.rt d e2) => some (.rt d e2)
      | none => none
def sFor (f : En → Option (List DV × En)) (t : DV → En → Option En) (b : Bk) : Bk := fun env => (f env).bind fun x => forL t b x.1 x.2
theorem ss_for {f : En → Option (List DV × En)} {t : DV → En → Option En} {b : Bk} {body : List Stmt} (hi : SI X tg iter f) (hg : STg X fx tg t) (hb : SSs X fx body b) (hp : PassesOwn (model X.prog X.w) X.A X.env X.xe := by exact PassesOwn.never) (hc : X.calm = true := by rfl)
    (hs : ∀ x, foldedSetIterable iter X.env x = pure x := by intro _; rfl) : SS X fx (.For tg iter body [] pos) (sFor f t b) := by
  refine ⟨ps_imp (ps_for hp hc hi.pi hg.pg hb.ps hs) ?_⟩
  rintro D σ H ⟨env, F, B, o, hS, dj, hb, k⟩
  obtain ⟨⟨ds, e0⟩, h1, h2⟩ := Option.bind_eq_some_iff.mp hb
  refine ⟨env, F, B, ds, e0, hS, dj, h1, fun J H0 F0 B0 C Ci k0 S0 n0 b0 hC hCi it => ?_⟩
  -- the state between two turns
  refine ⟨fun i m σ1 H1 => m = ds.length - i ∧ i ≤ ds.length ∧ ∃ e1 F1 B1, Keep F0 H0 H1 ∧ StR X.K H1 σ1 e1 F1 B1 ∧ Nw F0 H0 F1 ∧ Sb B0 B1 ∧ Fx fx σ σ1 ∧ forL t b (ds.drop i) e1 = some o,
    ⟨_, rfl, Nat.zero_le _, e0, F0, B0, Keep.refl, S0, Nw.self, Sb.self, Fx.self, h2⟩, ?_⟩
  rintro i m σ1 H1 ⟨rfl, hi, e1, F1, B1, k1, S1, n1, b1, x1, hf⟩
  have tk : TupKeep H0 H1 := k1.tups fun x q => S0.own x q
  have hC1 : ∀ a ∈ C, H1 a = H0 a := fun a q => k1.at (hC a q).2 (hC a q).1
  have djB : Disj F0 B0 := dj_of hS dj n0 b0
  have hCi1 : ∀ a ∈ Ci, H1 a = H0 a := fun a q => k1.at (S0.lent a (hCi a q)) fun z => djB a z (hCi a q)
  obtain ⟨stop, step⟩ := it i H1 tk hC1 hCi1
  have k01 : Keep F H H1 := k0.trans k1 n0
  have n01 : Nw F H F1 := Nw.trans k0 n0 n1
  by_cases hlt : i < ds.length
  · have hd : ds[i]? = some ds[i] := List.getElem?_eq_getElem hlt
    obtain ⟨go, yld⟩ := step _ hd
    refine .inr ⟨go, ?_⟩
    rw [List.drop_eq_getElem_cons hlt] at hf
    simp only [forL] at hf
    have dj1 : Disj F1 B1 := dj_of hS dj n01 (b0.trans b1)
    split at hf
    · cases hf
    · rename_i e2 ht
      refine ⟨fun σ2 H2 => ∃ e3 F3 B3, Keep F0 H0 H2 ∧ StR X.K H2 σ2 e3 F3 B3 ∧ Nw F0 H0 F3 ∧ Sb B0 B3 ∧ Fx fx σ σ2 ∧ forL t b (ds.drop (i + 1)) e3 = some o, fun σ2 H2 hN => ?_, fun x H2 hy => ?_⟩
      · obtain ⟨e3, F3, B3, a1, a2, a3, a4, a5, a6⟩ := hN
        exact ⟨ds.length - (i + 1), by omega, rfl, hlt, e3, F3, B3, a1, a2, a3, a4, a5, a6⟩
      · obtain ⟨sm, C', rx, cx⟩ := yld x H2 hy
        have S2 := S1.same sm
        have B0B : ∀ a, a ∈ C' → a ∉ F1 := fun a q z => by
          rcases n1 a z with z | z
          · exact djB a z (hCi a (cx a q))
          · obtain ⟨o, e⟩ := S0.lent a (hCi a (cx a q))
            rw [z] at e; cases e
        refine ⟨e1, F1, B1, ds[i], [], C', e2, S2, dj1, rx, (fun _ q => nomatch q), (fun _ q => nomatch q), (fun a q z => B0B a z q), (fun _ q => nomatch q), ht, fun σ3 H3 F3 B3 k3 S3 n3 b3 x3 => ?_⟩
        rw [List.append_nil] at k3
        have k12 : Keep F0 H0 H2 := k1.trans (F1 := F0) sm.keep fun x q => .inl q
        have n1' : Nw F0 H0 F1 := n1
        have k13 : Keep F0 H0 H3 := k12.trans k3 n1'
        have n13 : Nw F0 H0 F3 := fun a q => by
          rcases n3 a q with q | q | q
          · exact n1 a q
          · cases q
          · exact nw_upd k12 q
        have b13 : Sb B0 B3 := fun a q => (b3 a q).elim (b1 a) fun z => hCi a (cx a z)
        have x13 : Fx fx σ σ3 := x1.trans x3
        have djb : Disj F3 B3 := dj_of S0 djB n13 b13
        split at hf
        · rename_i e4 h4
          exact ⟨e2, F3, B3, _, S3, djb, h4, fun σ4 H4 F4 B4 k4 S4 n4 b4 x4 => ⟨e4, F4, B4, k13.trans k4 n13, S4, Nw.trans k13 n13 n4, b13.trans b4, x13.trans x4, hf⟩⟩
        · rename_i e4 h4
          exact ⟨e2, F3, B3, _, S3, djb, h4, fun σ4 H4 F4 B4 k4 S4 n4 b4 x4 => ⟨e4, F4, B4, k13.trans k4 n13, S4, Nw.trans k13 n13 n4, b13.trans b4, x13.trans x4, hf⟩⟩
        · rename_i e4 h4
          cases hf
          refine ⟨e2, F3, B3, _, S3, djb, h4, ?_⟩
          exact Aft.then (k0.trans k13 n0) (Nw.trans k0 n0 n13) (b0.trans b13) x13 (show Aft X.K fx σ H F B e4 D.nx from k)
        · rename_i d4 e4 h4
          cases hf
          refine ⟨e2, F3, B3, _, S3, djb, h4, ?_⟩
          exact AftR.then (k0.trans k13 n0) (Nw.trans k0 n0 n13) (b0.trans b13) x13 (show AftR X.K fx σ H F B d4 e4 D.rt from k)
        · cases hf
  · have e : i = ds.length := by omega
    subst e
    rw [List.drop_length] at hf
    cases hf
    exact .inl ⟨stop (Nat.le_refl _), k σ1 H1 F1 B1 k01 S1 n01 (b0.trans b1) x1⟩

/-! ### while -/
def whileL (t : En → Option (Bool × En)) (b : Bk) : Nat → Bk
  | 0, _ => none
  | n + 1, env => match t env with
    | some (true, e1) => match b e1 with
      | some (.nx e2) => whileL t b n e2
      | some (.ct e2) => whileL t b n e2
      | some (.bk e2) => some (.nx e2)
      | some (.rt d e2) => some (.rt d e2)
      | none => none
    | some (false, e1) => some (.nx e1)
    | none => none
def fuel : Nat := 1099511627776
def sWhile (t : En → Option (Bool × En)) (b : Bk) : Bk := fun env => whileL t b fuel env
theorem ss_while {t : En → Option (Bool × En)} {b : Bk} {body : List Stmt} (ht : ST X e t) (hb : SSs X fx body b) (hp : PassesOwn (model X.prog X.w) X.A X.env X.xe := by exact PassesOwn.never) : SS X fx (.While e body [] pos) (sWhile t b) := by
  refine ⟨ps_imp (ps_while hp ht.pt hb.ps) ?_⟩
  rintro D σ H ⟨env, F, B, o, hS, dj, hb, k⟩
  refine ⟨fun m σ1 H1 => ∃ e1 F1 B1, Keep F H H1 ∧ StR X.K H1 σ1 e1 F1 B1 ∧ Nw F H F1 ∧ Sb B B1 ∧ Fx fx σ σ1 ∧ whileL t b m e1 = some o, ⟨fuel, env, F, B, Keep.refl, hS, Nw.self, Sb.self, Fx.self, hb⟩, ?_⟩
  rintro m σ1 H1 ⟨e1, F1, B1, k1, S1, n1, b1, x1, hw⟩
  cases m with
  | zero => simp [whileL] at hw
  | succ m =>
    simp only [whileL] at hw
    have dj1 : Disj F1 B1 := dj_of hS dj n1 b1
    split at hw
    · rename_i e2 h2
      refine ⟨e1, F1, B1, true, e2, S1, dj1, h2, fun H2 F2 B2 k2 S2 n2 b2 => ?_⟩
      refine iteT ?_
      have k12 := k1.trans k2 n1
      have n12 := Nw.trans k1 n1 n2
      have b12 := b1.trans b2
      have dj2 : Disj F2 B2 := dj_of hS dj n12 b12
      refine ⟨fun σ' H' => ∃ e1 F1 B1, Keep F H H' ∧ StR X.K H' σ' e1 F1 B1 ∧ Nw F H F1 ∧ Sb B B1 ∧ Fx fx σ σ' ∧ whileL t b m e1 = some o, fun σ' H' h => ⟨m, Nat.lt_succ_self m, h⟩, ?_⟩
      split at hw
      · rename_i e4 h4
        exact ⟨e2, F2, B2, _, S2, dj2, h4, fun σ4 H4 F4 B4 k4 S4 n4 b4 x4 => ⟨e4, F4, B4, k12.trans k4 n12, S4, Nw.trans k12 n12 n4, b12.trans b4, x1.trans x4, hw⟩⟩
      · rename_i e4 h4
        exact ⟨e2, F2, B2, _, S2, dj2, h4, fun σ4 H4 F4 B4 k4 S4 n4 b4 x4 => ⟨e4, F4, B4, k12.trans k4 n12, S4, Nw.trans k12 n12 n4, b12.trans b4, x1.trans x4, hw⟩⟩
      · rename_i e4 h4
        cases hw
        exact ⟨e2, F2, B2, _, S2, dj2, h4, Aft.then k12 n12 b12 x1 (show Aft X.K fx σ H F B e4 D.nx from k)⟩
      · rename_i d4 e4 h4
        cases hw
        exact ⟨e2, F2, B2, _, S2, dj2, h4, AftR.then k12 n12 b12 x1 (show AftR X.K fx σ H F B d4 e4 D.rt from k)⟩
      · cases hw
    · rename_i e2 h2
      cases hw
      refine ⟨e1, F1, B1, false, _, S1, dj1, h2, fun H2 F2 B2 k2 S2 n2 b2 => ?_⟩
      refine iteF ?_
      exact k σ1 H2 F2 B2 (k1.trans k2 n1) S2 (Nw.trans k1 n1 n2) (b1.trans b2) x1
    · cases hw
end
end Sm

set_option Elab.async false
set_option linter.all false
set_option maxRecDepth 100000
/-! S6: operators on values; lists changed in place; names locked while they are walked. -/
namespace Sm
open PySem PySem.Spec PyProof.Rows L2
section
variable {X : Cx}
def dAdd : DV → DV → Option DV
  | .p (.int i), .p (.int j) => some (.p (.int (i + j)))
  | .p (.str x), .p (.str y) => if x.length + y.length ≤ sizeLine then some (.p (.str (x ++ y))) else none
  | .p (.tup xs), .p (.tup ys) => if xs.length + ys.length ≤ sizeLine then some (.p (.tup (xs ++ ys))) else none
  | d, e => match d, e with
    | .lst xs, .lst ys => if xs.length + ys.length ≤ sizeLine then some (.lst (xs ++ ys)) else none
    | .lst xs, .ro ys => if xs.length + ys.length ≤ sizeLine then some (.lst (xs ++ ys)) else none
    | .ro xs, .lst ys => if xs.length + ys.length ≤ sizeLine then some (.lst (xs ++ ys)) else none
    | .ro xs, .ro ys => if xs.length + ys.length ≤ sizeLine then some (.lst (xs ++ ys)) else none
    | _, _ => none
theorem cat_ok {K : PySem.W.Frag} {H : Hp} {x y : V} {d e r : DV} {G1 C1 G2 C2 : Fp} {Q : VK} (r1 : Rp K H x d G1 C1) (r2 : Rp K H y e G2 C2)
    (h : ∃ xs ys, (d = .lst xs ∨ d = .ro xs) ∧ (e = .lst ys ∨ e = .ro ys) ∧ xs.length + ys.length ≤ sizeLine ∧ r = .lst (xs ++ ys))
    (k : ∀ v H' G, Same H H' → Rp K H' v r G [] → (∀ a ∈ G, H a = none) → Q v H') : rCat x y H Q := by
  obtain ⟨xs, ys, hd, he, hl, rfl⟩ := h
  have a1 : ∃ a vs, x = .ref a ∧ H a = some (.lst vs) ∧ RPs K H vs xs := by
    rcases hd with rfl | rfl
    · cases r1 with | lst h r => exact ⟨_, _, rfl, h, r⟩
    · cases r1 with | ro h r => exact ⟨_, _, rfl, h, r⟩
  have a2 : ∃ a vs, y = .ref a ∧ H a = some (.lst vs) ∧ RPs K H vs ys := by
    rcases he with rfl | rfl
    · cases r2 with | lst h r => exact ⟨_, _, rfl, h, r⟩
    · cases r2 with | ro h r => exact ⟨_, _, rfl, h, r⟩
  obtain ⟨a, vs, rfl, h1, q1⟩ := a1
  obtain ⟨b, ws, rfl, h2, q2⟩ := a2
  refine ⟨a, b, vs, ws, rfl, rfl, h1, h2, by rw [q1.length, q2.length]; exact hl, fun p hp => ?_⟩
  have sm := same_upd (o := .lst (vs ++ ws)) hp
  exact k _ _ [p] sm (.lst upd_same ((q1.append q2).ext sm.tups)) fun z hz => by simp at hz; rw [hz]; exact hp
theorem sop_add : SOp X (binaryOp .Add) dAdd := by
  refine sop_of (OpR.or op_add (OpR.or op_add_str (OpR.or op_catA op_cat))) fun x y H Q d1 G1 C1 d2 G2 C2 d r1 r2 e k => ?_
  unfold dAdd at e
  split at e
  · cases e
    obtain ⟨rp, _, _⟩ := r1.pure
    cases rp
    obtain ⟨rp, _, _⟩ := r2.pure
    cases rp
    exact .inl ⟨_, _, rfl, rfl, k _ H [] (Same.refl H) (.p (.int _)) fun _ q => nomatch q⟩
  · split at e
    · rename_i hl
      cases e
      obtain ⟨rp, _, _⟩ := r1.pure
      cases rp
      obtain ⟨rp, _, _⟩ := r2.pure
      cases rp
      exact .inr (.inl ⟨_, _, rfl, rfl, hl, k _ H [] (Same.refl H) (.p (.str _)) fun _ q => nomatch q⟩)
    · cases e
  · rename_i xs ys
    split at e
    · rename_i hl
      cases e
      obtain ⟨rp, _, _⟩ := r1.pure
      cases rp with
      | @tup a vs _ t q1 =>
        obtain ⟨rp, _, _⟩ := r2.pure
        cases rp with
        | @tup b ws _ u q2 =>
          refine .inr (.inr (.inl ⟨a, b, vs, ws, rfl, rfl, t.seq, u.seq, by rw [q1.length, q2.length]; exact hl, fun e0 => ?_, fun _ e0 => ?_, fun _ _ p hp => ?_⟩))
          · subst e0
            cases q1
            exact k _ H [] (Same.refl H) (.p (.tup u q2)) fun _ q => nomatch q
          · subst e0
            cases q2
            rw [List.append_nil] at k
            exact k _ H [] (Same.refl H) (.p (.tup t q1)) fun _ q => nomatch q
          · have sm := same_upd (o := .tup (vs ++ ws)) hp
            exact k _ _ [] sm (.p (.tup (.inl upd_same) ((q1.append q2).ext sm.tups))) fun _ q => nomatch q
    · cases e
  · refine .inr (.inr (.inr (cat_ok r1 r2 ?_ k)))
    split at e
    all_goals first
      | (split at e
         · rename_i hl
           cases e
           first
             | exact ⟨_, _, .inl rfl, .inl rfl, hl, rfl⟩
             | exact ⟨_, _, .inl rfl, .inr rfl, hl, rfl⟩
             | exact ⟨_, _, .inr rfl, .inl rfl, hl, rfl⟩
             | exact ⟨_, _, .inr rfl, .inr rfl, hl, rfl⟩
         · cases e)
      | cases e
/-- two ints -/
def dII (g : Int → Int → Option DV) : DV → DV → Option DV
  | .p (.int i), .p (.int j) => g i j
  | _, _ => none
theorem sop_ii {f : Value → Value → Sem Value} {C : Int → Int → Prop} {h : Int → Int → Int} {g : Int → Int → Option DV} (o : OpR X f (rI C fun i j => .int (h i j))) (hg : ∀ i j d, g i j = some d → C i j ∧ d = .p (.int (h i j))) : SOp X f (dII g) := by
  refine sop_of o fun x y H Q d1 G1 C1 d2 G2 C2 d r1 r2 e k => ?_
  unfold dII at e
  split at e
  · obtain ⟨rp, _, _⟩ := r1.pure
    cases rp
    obtain ⟨rp, _, _⟩ := r2.pure
    cases rp
    obtain ⟨c, rfl⟩ := hg _ _ _ e
    exact ⟨_, _, rfl, rfl, c, k _ H [] (Same.refl H) (.p (.int _)) fun _ q => nomatch q⟩
  · cases e
theorem op_rI0 {f : Value → Value → Sem Value} {g : Int → Int → V} (o : OpR X f (rI0 g)) : OpR X f (rI (fun _ _ => True) g) := by
  intro pins s σ H x y v u Q I rx ry ⟨i, j, e1, e2, _, q⟩
  exact o pins s σ H x y v u Q I rx ry ⟨i, j, e1, e2, q⟩
def dSub : DV → DV → Option DV := dII fun i j => some (.p (.int (i - j)))
theorem sop_sub : SOp X (binaryOp .Sub) dSub := sop_ii (op_rI0 op_sub) fun i j d e => ⟨trivial, by cases e; rfl⟩
def mulOk (i j : Int) : Bool := lg 64 i || lg 64 j || decide (i.natAbs.log2 + j.natAbs.log2 < 1000000)
def dMulI : Int → Int → Option DV := fun i j => if mulOk i j then some (.p (.int (i * j))) else none
theorem sop_mulI : SOp X (binaryOp .Mult) (dII dMulI) := by
  refine sop_ii (C := fun i j => CMul i j ∨ CMulW i j) (h := fun i j => i * j) ?_ fun i j d e => ?_
  · intro pins s σ H x y v u Q I rx ry ⟨i, j, e1, e2, c, q⟩
    rcases c with c | c
    · exact op_mul pins s σ H x y v u Q I rx ry ⟨i, j, e1, e2, c, q⟩
    · exact op_mulW pins s σ H x y v u Q I rx ry ⟨i, j, e1, e2, c, q⟩
  · unfold dMulI at e
    split at e
    · rename_i h
      cases e
      refine ⟨?_, rfl⟩
      unfold mulOk at h
      simp only [Bool.or_eq_true, decide_eq_true_eq] at h
      rcases h with (h1 | h1) | h
      · have h1 := lg_lt h1 (by decide)
        exact .inl (.inl ⟨by omega, by omega⟩)
      · have h1 := lg_lt h1 (by decide)
        exact .inl (.inr ⟨by omega, by omega⟩)
      · exact .inr h
    · cases e
/-- a list times an int -/
def repL (xs : List PV) (k : Int) : Option DV := if lg 29 k && decide (xs.length * k.toNat ≤ sizeLine) then some (.lst (List.replicate k.toNat xs).flatten) else none
def dRepL : DV → DV → Option DV := fun d e => match e with
  | .p (.int k) => match d with
    | .lst xs => repL xs k
    | .ro xs => repL xs k
    | _ => none
  | _ => none
theorem RPs.rep {K : PySem.W.Frag} {H : Hp} {vs : List V} {xs : List PV} (r : RPs K H vs xs) : ∀ n, RPs K H (List.replicate n vs).flatten (List.replicate n xs).flatten
  | 0 => .nil
  | n + 1 => by
    rw [List.replicate_succ, List.replicate_succ, List.flatten_cons, List.flatten_cons]
    exact r.append (RPs.rep r n)
theorem sop_repL : SOp X (binaryOp .Mult) dRepL := by
  refine sop_of op_rep fun x y H Q d1 G1 C1 d2 G2 C2 d r1 r2 e k => ?_
  unfold dRepL at e
  split at e
  · rename_i n
    obtain ⟨rp, _, _⟩ := r2.pure
    cases rp
    have main : ∀ xs, (d1 = .lst xs ∨ d1 = .ro xs) → repL xs n = some d → rRep x (.int n) H Q := fun xs hd e => by
      have a1 : ∃ a vs, x = .ref a ∧ H a = some (.lst vs) ∧ RPs X.K H vs xs := by
        rcases hd with rfl | rfl
        · cases r1 with | lst h r => exact ⟨_, _, rfl, h, r⟩
        · cases r1 with | ro h r => exact ⟨_, _, rfl, h, r⟩
      obtain ⟨a, vs, rfl, h1, q1⟩ := a1
      unfold repL at e
      split at e
      · rename_i hh
        cases e
        simp only [Bool.and_eq_true, decide_eq_true_eq] at hh
        have hh1 := lg_lt hh.1 (by decide)
        refine ⟨a, n, vs, rfl, rfl, h1, by omega, by omega, by rw [q1.length]; exact hh.2, fun p hp => ?_⟩
        have sm := same_upd (o := .lst (List.replicate n.toNat vs).flatten) hp
        exact k _ _ [p] sm (.lst upd_same ((q1.rep _).ext sm.tups)) fun z hz => by simp at hz; rw [hz]; exact hp
      · cases e
    split at e
    · exact main _ (.inl rfl) e
    · exact main _ (.inr rfl) e
    · cases e
  · cases e
def dMul : DV → DV → Option DV := fun d e => match d with
  | .p _ => dII dMulI d e
  | _ => dRepL d e
theorem sop_mul : SOp X (binaryOp .Mult) dMul := sop_or sop_mulI sop_repL fun d1 d2 d e => by
  unfold dMul at e
  split at e
  · exact .inl e
  · exact .inr e
def dFdiv : DV → DV → Option DV := dII fun i j => if decide (0 < j) && decide (j.natAbs.log2 < 9000) then some (.p (.int (i / j))) else none
theorem sop_fdiv : SOp X (binaryOp .FloorDiv) dFdiv := sop_ii (h := fun i j => i / j) op_fdivW fun i j d e => by
  split at e
  · rename_i h
    cases e
    rw [Bool.and_eq_true, decide_eq_true_eq, decide_eq_true_eq] at h
    exact ⟨h, rfl⟩
  · cases e
def dMod : DV → DV → Option DV := dII fun i j => if 0 < j then some (.p (.int (i % j))) else none
theorem sop_mod : SOp X (binaryOp .Mod) dMod := sop_ii (h := fun i j => i % j) op_mod fun i j d e => by
  split at e
  · rename_i h
    cases e
    exact ⟨h, rfl⟩
  · cases e
def dPow : DV → DV → Option DV := dII fun i j => if decide (0 ≤ j) && decide ((Builtin.Int.intBits i : Int) * j ≤ 134217728) then some (.p (.int (i ^ j.toNat))) else none
theorem op_powW : OpR X (binaryOp .Pow) (rI (fun i j => 0 ≤ j ∧ (Builtin.Int.intBits i : Int) * j ≤ 2 ^ 27) fun i j => .int (i ^ j.toNat)) := opI fun i j _ _ _ _ _ hc q => pow_int hc.1 hc.2 q
theorem sop_pow : SOp X (binaryOp .Pow) dPow := sop_ii (h := fun i j => i ^ j.toNat) op_powW fun i j d e => by
  split at e
  · rename_i h
    cases e
    rw [Bool.and_eq_true, decide_eq_true_eq, decide_eq_true_eq] at h
    exact ⟨h, rfl⟩
  · cases e
def dAnd : DV → DV → Option DV := dII fun i j => some (.p (.int (Builtin.bitAnd i j)))
theorem sop_and : SOp X (binaryOp .BitAnd) dAnd := sop_ii (op_rI0 op_and) fun i j d e => ⟨trivial, by cases e; rfl⟩
def dOr : DV → DV → Option DV := dII fun i j => some (.p (.int (Builtin.bitOr i j)))
theorem sop_or' : SOp X (binaryOp .BitOr) dOr := sop_ii (op_rI0 op_or) fun i j d e => ⟨trivial, by cases e; rfl⟩
def dNeg : DV → Option DV
  | .p (.int i) => some (.p (.int (-i)))
  | _ => none
theorem sun_neg : SUn X (unaryOp .USub) dNeg := by
  intro pins s σ H x v Q I rx q
  obtain ⟨d1, G1, C1, d, r1, e, k⟩ := q
  unfold dNeg at e
  split at e
  · cases e
    obtain ⟨rp, _, _⟩ := r1.pure
    cases rp
    exact un_neg pins s σ H _ v Q I rx ⟨_, rfl, k _ H [] (Same.refl H) (.p (.int _)) fun _ q => nomatch q⟩
  · cases e
/-! ### comparisons -/
def dCmpI (g : Int → Int → Bool) : DV → DV → Option DV := dII fun i j => some (.p (.bl (g i j)))
theorem sop_ci {f : Value → Value → Sem Value} {g : Int → Int → Bool} (o : OpR X f (rI0 fun i j => .bl (g i j))) : SOp X f (dCmpI g) := by
  refine sop_of o fun x y H Q d1 G1 C1 d2 G2 C2 d r1 r2 e k => ?_
  unfold dCmpI dII at e
  split at e
  · cases e
    obtain ⟨rp, _, _⟩ := r1.pure
    cases rp
    obtain ⟨rp, _, _⟩ := r2.pure
    cases rp
    exact ⟨_, _, rfl, rfl, k _ H [] (Same.refl H) (.p (.bl _)) fun _ q => nomatch q⟩
  · cases e
def dLt : DV → DV → Option DV := dCmpI fun i j => decide (i < j)
def dLe : DV → DV → Option DV := dCmpI fun i j => decide (i ≤ j)
def dGt : DV → DV → Option DV := dCmpI fun i j => decide (j < i)
def dGe : DV → DV → Option DV := dCmpI fun i j => decide (j ≤ i)
theorem sop_lt : SOp X (compareOp .Lt) dLt := sop_ci op_lt
theorem sop_le : SOp X (compareOp .LtE) dLe := sop_ci op_le
theorem sop_gt : SOp X (compareOp .Gt) dGt := sop_ci op_gt
theorem sop_ge : SOp X (compareOp .GtE) dGe := sop_ci op_ge
/-- lists and tuples of pure data -/
def DV.toD? : DV → Option PyData
  | .p x => some x.toD
  | .lst xs => some (.list (PV.toDs xs))
  | .ro xs => some (.list (PV.toDs xs))
  | _ => none
theorem toD_ok {K : PySem.W.Frag} {H : Hp} {v : V} {d : DV} {e : PyData} {G C : Fp} (r : Rp K H v d G C) (h : d.toD? = some e) : Dp K H v e := by
  cases r with
  | p r => cases h; exact r.dp
  | lst h0 r => cases h; exact .lst (.of h0) r.dp
  | ro h0 r => cases h; exact .lst (.of h0) r.dp
  | _ => cases h
def dEq : DV → DV → Option DV := fun d e => d.toD?.bind fun x => e.toD?.bind fun y => if SeqAt.shaped x && SeqAt.shaped y then some (.p (.bl (PyData.eqv x y))) else none
def dNe : DV → DV → Option DV := fun d e => d.toD?.bind fun x => e.toD?.bind fun y => if SeqAt.shaped x && SeqAt.shaped y then some (.p (.bl (!PyData.eqv x y))) else none
theorem sop_eq (hu : X.A.units + 64 < cLine) : SOp X (compareOp .Eq) dEq := by
  refine sop_of (op_eqD hu) fun x y H Q d1 G1 C1 d2 G2 C2 d r1 r2 e k => ?_
  obtain ⟨a, h1, e⟩ := Option.bind_eq_some_iff.mp e
  obtain ⟨b, h2, e⟩ := Option.bind_eq_some_iff.mp e
  split at e
  · rename_i h
    cases e
    rw [Bool.and_eq_true] at h
    exact ⟨a, b, toD_ok r1 h1, toD_ok r2 h2, h.1, h.2, k _ H [] (Same.refl H) (.p (.bl _)) fun _ q => nomatch q⟩
  · cases e
theorem sop_ne (hu : X.A.units + 64 < cLine) : SOp X (compareOp .NotEq) dNe := by
  refine sop_of (op_neD hu) fun x y H Q d1 G1 C1 d2 G2 C2 d r1 r2 e k => ?_
  obtain ⟨a, h1, e⟩ := Option.bind_eq_some_iff.mp e
  obtain ⟨b, h2, e⟩ := Option.bind_eq_some_iff.mp e
  split at e
  · rename_i h
    cases e
    rw [Bool.and_eq_true] at h
    exact ⟨a, b, toD_ok r1 h1, toD_ok r2 h2, h.1, h.2, k _ H [] (Same.refl H) (.p (.bl _)) fun _ q => nomatch q⟩
  · cases e
/-- is None, is True -/
def isN : DV → Bool
  | .p .non => true
  | _ => false
theorem isN_ok {K : PySem.W.Frag} {H : Hp} {v : V} {d : DV} {G C : Fp} (r : Rp K H v d G C) : decide (v = .non) = isN d := by
  cases r with
  | p r => cases r <;> rfl
  | _ => rfl
def dIs : DV → DV → Option DV := fun d e => match e with
  | .p .non => some (.p (.bl (isN d)))
  | .p (.bl b) => match d with
    | .p (.bl a) => some (.p (.bl (decide (a = b))))
    | _ => none
  | _ => none
def dIsnot : DV → DV → Option DV := fun d e => match e with
  | .p .non => some (.p (.bl (!isN d)))
  | .p (.bl b) => match d with
    | .p (.bl a) => some (.p (.bl (!decide (a = b))))
    | _ => none
  | _ => none
theorem sop_is : SOp X (compareOp .Is) dIs := by
  refine sop_of (OpR.or op_isN op_is_bl) fun x y H Q d1 G1 C1 d2 G2 C2 d r1 r2 e k => ?_
  unfold dIs at e
  split at e
  · cases e
    obtain ⟨rp, _, _⟩ := r2.pure
    cases rp
    exact .inl ⟨rfl, by rw [isN_ok r1]; exact k _ H [] (Same.refl H) (.p (.bl _)) fun _ q => nomatch q⟩
  · split at e
    · cases e
      obtain ⟨rp, _, _⟩ := r1.pure
      cases rp
      obtain ⟨rp, _, _⟩ := r2.pure
      cases rp
      exact .inr ⟨_, _, rfl, rfl, k _ H [] (Same.refl H) (.p (.bl _)) fun _ q => nomatch q⟩
    · cases e
  · cases e
theorem sop_isnot : SOp X (compareOp .IsNot) dIsnot := by
  refine sop_of (OpR.or op_notN op_isnot_bl) fun x y H Q d1 G1 C1 d2 G2 C2 d r1 r2 e k => ?_
  unfold dIsnot at e
  split at e
  · cases e
    obtain ⟨rp, _, _⟩ := r2.pure
    cases rp
    exact .inl ⟨rfl, by rw [isN_ok r1]; exact k _ H [] (Same.refl H) (.p (.bl _)) fun _ q => nomatch q⟩
  · split at e
    · cases e
      obtain ⟨rp, _, _⟩ := r1.pure
      cases rp
      obtain ⟨rp, _, _⟩ := r2.pure
      cases rp
      exact .inr ⟨_, _, rfl, rfl, k _ H [] (Same.refl H) (.p (.bl _)) fun _ q => nomatch q⟩
    · cases e
  · cases e
end
end Sm

set_option Elab.async false
set_option linter.all false
set_option maxRecDepth 100000
/-! S7: lists changed in place; op= on names; names locked while they are walked. -/
namespace Sm
open PySem PySem.Spec PyProof.Rows L2
def isL : DV → Bool
  | .lst _ => true
  | .ml _ => true
  | _ => false
theorem isL_ok {K : PySem.W.Frag} {H : Hp} {v : V} {d : DV} {G C : Fp} (r : Rp K H v d G C) (h : isL d = true) : ∃ a vs, v = .ref a ∧ H a = some (.lst vs) ∧ a ∈ G := by
  cases r with
  | lst e r => exact ⟨_, _, rfl, e, by simp⟩
  | ml e r _ _ => exact ⟨_, _, rfl, e, by simp⟩
  | _ => simp [isL] at h
def dAppend : DV → DV → Option DV := fun l d => match l with
  | .lst xs => match d with
    | .p v => if xs.length < sizeLine then some (.lst (xs ++ [v])) else none
    | d => match xs with
      | [] => some (.ml [d])
      | _ => none
  | .ml ds => if ds.length < sizeLine then some (.ml (ds ++ [d])) else none
  | _ => none
section
variable {K : PySem.W.Frag} {H : Hp} {v y : V} {l d l' : DV} {G1 G C1 C : Fp}
theorem keep_lst {a : Addr} {vs ws : List V} (h : H a = some (.lst vs)) : TupKeep H (upd H a (.lst ws)) := fun b xs e => by
  rw [upd_ne (fun z => by subst z; rw [h] at e; cases e)]
  exact e
theorem append_ok (r1 : Rp K H v l G1 C1) (r2 : Rp K H y d G []) (e : dAppend l d = some l') (dj : Disj G1 G) (dj2 : Disj G C1) (dj3 : Disj G1 C1) :
    ∃ a vs, v = .ref a ∧ H a = some (.lst vs) ∧ vs.length < sizeLine ∧ a ∈ G1 ∧ ∃ G', Rp K (upd H a (.lst (vs ++ [y]))) v l' G' C1 ∧ ∀ x ∈ G', x ∈ G1 ∨ x ∈ G := by
  unfold dAppend at e
  split at e
  · cases r1 with
    | @lst a vs xs h r =>
      have k := keep_lst (ws := vs ++ [y]) h
      split at e
      · split at e
        · rename_i hl
          cases e
          obtain ⟨rp, _, _⟩ := r2.pure
          exact ⟨a, vs, rfl, h, by rw [r.length]; exact hl, by simp, [a], .lst upd_same ((r.append (.cons rp .nil)).ext k), fun x q => .inl q⟩
        · cases e
      · split at e
        · cases e
          cases r
          refine ⟨a, [], rfl, h, by rw [sizeLine_eq]; decide, by simp, a :: (G ++ []), .ml upd_same (.cons (B := []) (C := []) (r2.ext k (fun b q => upd_ne ?_) fun _ q => nomatch q) .nil fun _ _ z => nomatch z) ?_ (by simp), fun x q => ?_⟩
          · rintro rfl; exact dj b (by simp) q
          · intro z
            rw [List.append_nil] at z
            exact dj a (by simp) z
          · rcases List.mem_cons.mp q with rfl | q
            · exact .inl (by simp)
            · rw [List.append_nil] at q; exact .inr q
        · cases e
  · split at e
    · rename_i ds hl
      cases e
      cases r1 with
      | @ml a vs _ F B h r n m =>
        have k := keep_lst (ws := vs ++ [y]) h
        have one : RpAll K H [y] [d] G [] := by
          have := RpAll.cons (B := []) (C := []) (G := []) r2 .nil fun _ _ z => nomatch z
          rw [List.append_nil] at this
          exact this
        have all : RpAll K H (vs ++ [y]) (ds ++ [d]) (F ++ G) C1 := by
          have := r.append one fun x q z => dj x (List.mem_cons_of_mem _ q) z
          rw [List.append_nil] at this
          exact this
        refine ⟨a, vs, rfl, h, by rw [r.length]; exact hl, by simp, a :: (F ++ G), .ml upd_same (all.ext k (fun b q => upd_ne fun z => (List.mem_append.mp q).elim (fun q => n (z ▸ q)) fun q => dj a (by simp) (z ▸ q)) fun b q => upd_ne fun z => m (z ▸ q)) (fun z => ?_) m, fun x q => ?_⟩
        · rcases List.mem_append.mp z with z | z
          · exact n z
          · exact dj a (by simp) z
        · rcases List.mem_cons.mp q with rfl | q
          · exact .inl (by simp)
          · exact (List.mem_append.mp q).imp (List.mem_cons_of_mem _) id
    · cases e
  · cases e
end
section
variable {X : Cx} {fx : Nat → Bool} {st : Stmt} {a b e : Expr} {pos : Pos}
/-- a slot's object changed: what follows -/
theorem put_go {K : PySem.W.Frag} {σ : Sg} {H : Hp} {env : En} {F B : Fp} (hS : StR K H σ env F B) (dj : Disj F B) {i : Nat} {l : DV} (h : env.g i = some l) :
    ∃ v G C, σ[i]? = some (some v) ∧ Rp K H v l G C ∧ (∀ a ∈ G, a ∈ F) ∧ (∀ a ∈ C, a ∈ B) ∧ ∀ (a : Addr) (vs ws : List V) (l' : DV) (G' : Fp) (E : Fp), H a = some (.lst vs) → a ∈ G → Rp K (upd H a (.lst ws)) v l' G' C → (∀ x ∈ G', x ∈ G ∨ x ∈ E) → Disj E F →
      ∃ F' B', StR K (upd H a (.lst ws)) σ (env.set i (some l')) F' B' ∧ (∀ x ∈ F', x ∈ F ∨ x ∈ E) ∧ Sb B B' := by
  obtain ⟨v, G, C, e1, r1, s1, s2, k⟩ := hS.put dj (En.g_some h)
  refine ⟨v, G, C, e1, r1, s1, s2, fun a vs ws l' G' E ha hG r' hg hE => ?_⟩
  obtain ⟨F', B', S', u1, u2⟩ := k (upd H a (.lst ws)) l' G' C (keep_lst ha) (fun b o eo nb => by rw [upd_ne (fun z => nb (by rw [z]; exact hG))]; exact eo) r' (fun x q => (hg x q).imp id fun z y => hE x z y) fun _ q => q
  exact ⟨F', B', S', fun x q => (u1 x q).elim .inl fun z => (hg x z).imp (s1 x) id, u2⟩
def dMulIp : DV → DV → Option DV := dII fun i j => if lg 64 j then some (.p (.int (i * j))) else none
/-- xs.append(e) -/
def eAppend (i : Nat) (f : En → Option (DV × En)) : En → Option (DV × En) := fun env => (env.g i).bind fun l0 => if isL l0 then (f env).bind fun x => (x.2.g i).bind fun l => (dAppend l x.1).map fun l' => (.p .non, x.2.set i (some l')) else none
theorem se_append (i : Nat) {x : Str} {p ap cp : Pos} {f : En → Option (DV × En)} (h : SE X e f) (hN : X.N[i]? = some x := by rfl) (hv : Vis X.env.scope x := by first | exact Or.inl rfl | exact Or.inr (Or.inl rfl) | exact Or.inr (Or.inr rfl)) (hd : (x == ("__debug__" : Str)) = false := by decide)
    (hcd : (x == ("__classdict__" : Str)) = false := by decide)
    (hbase : attributeBase (.Name x p) "append" X.env (eval (.Name x p) X.env) = eval (.Name x p) X.env := by rfl)
    (hfew : ((backTo cp (starEach [e] X.env)).all (fun x => !x.1) && (backToKw cp (keywordEach [] X.env)).all (fun x => x.1.isSome)
      && decide ([e].length + ([] : List Keyword).length + (if ([] : List Keyword).isEmpty then 0 else 1) < 30)) = true := by rfl)
    (hline : (ap.endLine == cp.line) = true := by rfl) (hs : starEach [e] X.env = (false, eval e X.env) :: starEach [] X.env := by rfl) (hplain : (backTo cp (starEach [] X.env)).any (·.1) = false := by rfl) :
    SE X (.Call (.Attribute (.Name x p) "append" ap) [e] [] cp) (eAppend i f) := by
  refine ⟨pe_imp (pe_bm PySem.F.plainAttrs_list PySem.F.slot_list_append PySem.F.type_list_append mt_append (pe_var hN hv hd hcd) (pa_cons h.pe pa_nil hs) hbase hfew hline hs hplain) ?_⟩
  rintro σ H Q ⟨env, F, B, d, env', hS, dj, hf, k⟩
  obtain ⟨l0, h0, hf⟩ := Option.bind_eq_some_iff.mp hf
  split at hf
  · rename_i hl0
    obtain ⟨⟨d1, e1⟩, h1, hf⟩ := Option.bind_eq_some_iff.mp hf
    obtain ⟨l, h2, hf⟩ := Option.bind_eq_some_iff.mp hf
    obtain ⟨l', h3, h4⟩ := Option.map_eq_some_iff.mp hf
    cases h4
    obtain ⟨v, G0, C0, ev, r0, _, _⟩ := hS.get (En.g_some h0)
    obtain ⟨a0, vs0, rfl, ha0, _⟩ := isL_ok r0 hl0
    refine ⟨.ref a0, ev, .inl ⟨rfl, _, .of ha0⟩, env, F, B, d1, e1, hS, dj, h1, fun y H1 F1 B1 G k1 S1 n1 b1 r g d1 => ?_⟩
    have dj1 : Disj F1 B1 := dj_of hS dj n1 b1
    obtain ⟨v1, G1, C1, ev1, r1, s1, s2, put⟩ := put_go S1 dj1 h2
    rw [ev] at ev1
    cases ev1
    have gB : Disj G B1 := fun a q z => by
      rcases g a q with q | q
      · exact dj a q (b1 a z)
      · obtain ⟨o, e⟩ := hS.lent a (b1 a z)
        rw [q] at e; cases e
    obtain ⟨a, vs, ea, ha, hl, ma, G', r', g'⟩ := append_ok r1 r h3 (fun a q z => d1 a z (s1 a q)) (fun a q z => gB a q (s2 a z)) (fun a q z => dj1 a (s1 a q) (s2 a z))
    cases ea
    obtain ⟨F', B', S', u1, u2⟩ := put a0 vs _ l' G' G ha ma r' g' d1
    refine ⟨a0, vs, y, rfl, rfl, ha, hl, ?_⟩
    refine k .non _ F' B' [] (k1.trans (keep_upd (s1 a0 ma)) n1) S' (fun x q => (u1 x q).elim (n1 x) (g x)) (fun x q => b1 x (u2 x q)) (.p .non) (fun _ q => nomatch q) fun _ q => nomatch q
  · cases hf
/-- xs.pop() -/
def dPop : DV → Option (DV × DV)
  | .lst xs => match xs.getLast? with
    | some x => some (.p x, .lst xs.dropLast)
    | none => none
  | _ => none
theorem dPop_inv {l y l' : DV} (e : dPop l = some (y, l')) : ∃ xs z, l = .lst xs ∧ xs[xs.length - 1]? = some z ∧ y = .p z ∧ l' = .lst xs.dropLast := by
  cases l with
  | lst xs =>
    simp only [dPop] at e
    split at e
    · rename_i z hz
      cases e
      rw [List.getLast?_eq_getElem?] at hz
      exact ⟨xs, z, rfl, hz, rfl, rfl⟩
    · cases e
  | _ => cases e
def ePop (i : Nat) : En → Option (DV × En) := fun env => (env.g i).bind fun l => (dPop l).map fun x => (x.1, env.set i (some x.2))
theorem se_pop (i : Nat) {x : Str} {p ap cp : Pos} (hN : X.N[i]? = some x := by rfl) (hv : Vis X.env.scope x := by first | exact Or.inl rfl | exact Or.inr (Or.inl rfl) | exact Or.inr (Or.inr rfl)) (hd : (x == ("__debug__" : Str)) = false := by decide)
    (hcd : (x == ("__classdict__" : Str)) = false := by decide)
    (hbase : attributeBase (.Name x p) "pop" X.env (eval (.Name x p) X.env) = eval (.Name x p) X.env := by rfl)
    (hline : (ap.endLine == cp.line) = true := by rfl) :
    SE X (.Call (.Attribute (.Name x p) "pop" ap) [] [] cp) (ePop i) := by
  refine ⟨pe_imp (pe_bm0 PySem.F.plainAttrs_list PySem.F.slot_list_pop PySem.F.type_list_pop mt_pop (pe_var hN hv hd hcd) hbase hline) ?_⟩
  rintro σ H Q ⟨env, F, B, d, env', hS, dj, hf, k⟩
  obtain ⟨l, h0, hf⟩ := Option.bind_eq_some_iff.mp hf
  obtain ⟨⟨y, l'⟩, h1, h2⟩ := Option.map_eq_some_iff.mp hf
  cases h2
  obtain ⟨v, G, C, ev, r, s1, s2, put⟩ := put_go hS dj h0
  obtain ⟨xs, z, rfl, hz', rfl, rfl⟩ := dPop_inv h1
  cases r with
  | @lst a vs _ h r =>
    obtain ⟨w, hw, rw'⟩ := r.get hz'
    have kk := keep_lst (ws := vs.dropLast) h
    obtain ⟨F', B', S', u1, u2⟩ := put a vs vs.dropLast (.lst xs.dropLast) [a] [] h (by simp) (.lst upd_same (r.dropLast.ext kk)) (fun x q => .inl q) fun _ q => nomatch q
    refine ⟨.ref a, ev, .inl ⟨rfl, _, .of h⟩, a, vs, w, rfl, rfl, h, by rw [r.length]; exact hw, ?_⟩
    exact k w _ F' B' [] (keep_upd (s1 a (by simp))) S' (fun x q => (u1 x q).elim .inl fun z => nomatch z) u2 (.p (rw'.ext kk)) (fun _ q => nomatch q) fun _ q => nomatch q
/-- xs.pop(k) -/
def dPopAt : DV → DV → Option (DV × DV) := fun l d => match l, d with
  | .lst xs, .p (.int k) => if 0 ≤ k then match xs[k.toNat]? with
      | some x => if xs.length ≤ 1000000000 then some (.p x, .lst (xs.eraseIdx k.toNat)) else none
      | none => none
    else none
  | _, _ => none
theorem dPopAt_inv {l d y l' : DV} (e : dPopAt l d = some (y, l')) : ∃ xs k z, l = .lst xs ∧ d = .p (.int k) ∧ 0 ≤ k ∧ xs[k.toNat]? = some z ∧ xs.length ≤ 1000000000 ∧ y = .p z ∧ l' = .lst (xs.eraseIdx k.toNat) := by
  unfold dPopAt at e
  split at e
  · rename_i xs k
    split at e
    · rename_i h0
      split at e
      · rename_i z hz
        split at e
        · rename_i hl
          cases e
          exact ⟨xs, k, z, rfl, rfl, h0, hz, hl, rfl, rfl⟩
        · cases e
      · cases e
    · cases e
  · cases e
def ePopAt (i : Nat) (f : En → Option (DV × En)) : En → Option (DV × En) := fun env => (env.g i).bind fun l0 => if isL l0 then (f env).bind fun x => (x.2.g i).bind fun l => (dPopAt l x.1).map fun y => (y.1, x.2.set i (some y.2)) else none
theorem seqIx_nat {k n : Nat} (h : k < n) (hn : n ≤ 1000000000) : seqIndex? (k : Int) n = some k := by
  unfold seqIndex?
  simp
  omega
theorem se_popAt (i : Nat) {x : Str} {p ap cp : Pos} {f : En → Option (DV × En)} (h : SE X e f) (hN : X.N[i]? = some x := by rfl) (hv : Vis X.env.scope x := by first | exact Or.inl rfl | exact Or.inr (Or.inl rfl) | exact Or.inr (Or.inr rfl)) (hd : (x == ("__debug__" : Str)) = false := by decide)
    (hcd : (x == ("__classdict__" : Str)) = false := by decide)
    (hbase : attributeBase (.Name x p) "pop" X.env (eval (.Name x p) X.env) = eval (.Name x p) X.env := by rfl)
    (hfew : ((backTo cp (starEach [e] X.env)).all (fun x => !x.1) && (backToKw cp (keywordEach [] X.env)).all (fun x => x.1.isSome)
      && decide ([e].length + ([] : List Keyword).length + (if ([] : List Keyword).isEmpty then 0 else 1) < 30)) = true := by rfl)
    (hline : (ap.endLine == cp.line) = true := by rfl) (hs : starEach [e] X.env = (false, eval e X.env) :: starEach [] X.env := by rfl) (hplain : (backTo cp (starEach [] X.env)).any (·.1) = false := by rfl) :
    SE X (.Call (.Attribute (.Name x p) "pop" ap) [e] [] cp) (ePopAt i f) := by
  refine ⟨pe_imp (pe_bm PySem.F.plainAttrs_list PySem.F.slot_list_pop PySem.F.type_list_pop mt_popAt (pe_var hN hv hd hcd) (pa_cons h.pe pa_nil hs) hbase hfew hline hs hplain) ?_⟩
  rintro σ H Q ⟨env, F, B, d, env', hS, dj, hf, k⟩
  obtain ⟨l0, h0, hf⟩ := Option.bind_eq_some_iff.mp hf
  split at hf
  · rename_i hl0
    obtain ⟨⟨d1, e1⟩, h1, hf⟩ := Option.bind_eq_some_iff.mp hf
    obtain ⟨l, h2, hf⟩ := Option.bind_eq_some_iff.mp hf
    obtain ⟨⟨y, l'⟩, h3, h4⟩ := Option.map_eq_some_iff.mp hf
    cases h4
    obtain ⟨v, G0, C0, ev, r0, _, _⟩ := hS.get (En.g_some h0)
    obtain ⟨a0, vs0, rfl, ha0, _⟩ := isL_ok r0 hl0
    refine ⟨.ref a0, ev, .inl ⟨rfl, _, .of ha0⟩, env, F, B, d1, e1, hS, dj, h1, fun yv H1 F1 B1 G k1 S1 n1 b1 r g d1 => ?_⟩
    have dj1 : Disj F1 B1 := dj_of hS dj n1 b1
    obtain ⟨v1, G1, C1, ev1, r1, s1, s2, put⟩ := put_go S1 dj1 h2
    rw [ev] at ev1
    cases ev1
    obtain ⟨xs, kk, z, rfl, rfl, hk0, hz, hlen, rfl, rfl⟩ := dPopAt_inv h3
    cases r1 with
    | @lst a vs _ h r1 =>
      obtain ⟨rp, _, _⟩ := r.pure
      cases rp
      obtain ⟨w, hw, rw'⟩ := r1.get hz
      have ks := keep_lst (ws := vs.eraseIdx kk.toNat) h
      obtain ⟨F', B', S', u1, u2⟩ := put a0 vs (vs.eraseIdx kk.toNat) (.lst (xs.eraseIdx kk.toNat)) [a0] [] h (by simp) (.lst upd_same ((r1.eraseIdx _).ext ks)) (fun x q => .inl q) fun _ q => nomatch q
      have hlt : kk.toNat < vs.length := (List.getElem?_eq_some_iff.mp hw).1
      have hvl : vs.length ≤ 1000000000 := by rw [r1.length]; exact hlen
      have hsi : seqIndex? kk vs.length = some kk.toNat := by
        have := seqIx_nat hlt hvl
        rwa [Int.toNat_of_nonneg hk0] at this
      refine ⟨a0, vs, kk, kk.toNat, w, rfl, rfl, h, by omega, by omega, hsi, hw, ?_⟩
      exact k w _ F' B' [] (k1.trans (keep_upd (s1 a0 (by simp))) n1) S' (fun x q => (u1 x q).elim (n1 x) fun z => nomatch z) (fun x q => b1 x (u2 x q)) (.p (rw'.ext ks)) (fun _ q => nomatch q) fun _ q => nomatch q
  · cases hf
/-- xs.extend(ys), ys a list of its own -/
def dExtend : DV → DV → Option DV := fun l d => match l, d with
  | .lst xs, .lst ys => if xs.length + ys.length ≤ sizeLine then some (.lst (xs ++ ys)) else none
  | _, _ => none
theorem dExtend_inv {l d l' : DV} (e : dExtend l d = some l') : ∃ xs ys, l = .lst xs ∧ d = .lst ys ∧ xs.length + ys.length ≤ sizeLine ∧ l' = .lst (xs ++ ys) := by
  unfold dExtend at e
  split at e
  · rename_i xs ys
    split at e
    · rename_i hl
      cases e
      exact ⟨xs, ys, rfl, rfl, hl, rfl⟩
    · cases e
  · cases e
def eExtend (i : Nat) (f : En → Option (DV × En)) : En → Option (DV × En) := fun env => (env.g i).bind fun l0 => if isL l0 then (f env).bind fun x => (x.2.g i).bind fun l => (dExtend l x.1).map fun l' => (.p .non, x.2.set i (some l')) else none
theorem se_extend (i : Nat) {x : Str} {p ap cp : Pos} {f : En → Option (DV × En)} (h : SE X e f) (hN : X.N[i]? = some x := by rfl) (hv : Vis X.env.scope x := by first | exact Or.inl rfl | exact Or.inr (Or.inl rfl) | exact Or.inr (Or.inr rfl)) (hd : (x == ("__debug__" : Str)) = false := by decide)
    (hcd : (x == ("__classdict__" : Str)) = false := by decide)
    (hbase : attributeBase (.Name x p) "extend" X.env (eval (.Name x p) X.env) = eval (.Name x p) X.env := by rfl)
    (hfew : ((backTo cp (starEach [e] X.env)).all (fun x => !x.1) && (backToKw cp (keywordEach [] X.env)).all (fun x => x.1.isSome)
      && decide ([e].length + ([] : List Keyword).length + (if ([] : List Keyword).isEmpty then 0 else 1) < 30)) = true := by rfl)
    (hline : (ap.endLine == cp.line) = true := by rfl) (hs : starEach [e] X.env = (false, eval e X.env) :: starEach [] X.env := by rfl) (hplain : (backTo cp (starEach [] X.env)).any (·.1) = false := by rfl) :
    SE X (.Call (.Attribute (.Name x p) "extend" ap) [e] [] cp) (eExtend i f) := by
  refine ⟨pe_imp (pe_bm PySem.F.plainAttrs_list PySem.F.slot_list_extend PySem.F.type_list_extend mt_extend (pe_var hN hv hd hcd) (pa_cons h.pe pa_nil hs) hbase hfew hline hs hplain) ?_⟩
  rintro σ H Q ⟨env, F, B, d, env', hS, dj, hf, k⟩
  obtain ⟨l0, h0, hf⟩ := Option.bind_eq_some_iff.mp hf
  split at hf
  · rename_i hl0
    obtain ⟨⟨d1, e1⟩, h1, hf⟩ := Option.bind_eq_some_iff.mp hf
    obtain ⟨l, h2, hf⟩ := Option.bind_eq_some_iff.mp hf
    obtain ⟨l', h3, h4⟩ := Option.map_eq_some_iff.mp hf
    cases h4
    obtain ⟨v, G0, C0, ev, r0, _, _⟩ := hS.get (En.g_some h0)
    obtain ⟨a0, vs0, rfl, ha0, _⟩ := isL_ok r0 hl0
    refine ⟨.ref a0, ev, .inl ⟨rfl, _, .of ha0⟩, env, F, B, d1, e1, hS, dj, h1, fun yv H1 F1 B1 G k1 S1 n1 b1 r g d1 => ?_⟩
    have dj1 : Disj F1 B1 := dj_of hS dj n1 b1
    obtain ⟨v1, G1, C1, ev1, r1, s1, s2, put⟩ := put_go S1 dj1 h2
    rw [ev] at ev1
    cases ev1
    obtain ⟨xs, ys, rfl, rfl, hl, rfl⟩ := dExtend_inv h3
    cases r1 with
    | @lst a vs _ h r1 =>
      cases r with
      | @lst b ws _ hb r2 =>
        have ks := keep_lst (ws := vs ++ ws) h
        obtain ⟨F', B', S', u1, u2⟩ := put a0 vs (vs ++ ws) (.lst _) [a0] [] h (by simp) (.lst upd_same ((r1.append r2).ext ks)) (fun x q => .inl q) fun _ q => nomatch q
        refine ⟨a0, b, vs, ws, rfl, rfl, h, hb, by rw [r1.length, r2.length]; exact hl, ?_⟩
        exact k _ _ F' B' [] (k1.trans (keep_upd (s1 a0 (by simp))) n1) S' (fun x q => (u1 x q).elim (n1 x) fun z => nomatch z) (fun x q => b1 x (u2 x q)) (.p .non) (fun _ q => nomatch q) fun _ q => nomatch q
  · cases hf
/-- xs[i] = e -/
def dSetI : DV → DV → DV → Option DV := fun l i d => match l, i, d with
  | .lst xs, .p (.int k), .p v => (ixN xs.length k).map fun j => .lst (xs.set j v)
  | _, _, _ => none
theorem dSetI_inv {l i d l' : DV} (e : dSetI l i d = some l') : ∃ xs k v j, l = .lst xs ∧ i = .p (.int k) ∧ d = .p v ∧ ixN xs.length k = some j ∧ l' = .lst (xs.set j v) := by
  unfold dSetI at e
  split at e
  · rename_i xs k v
    obtain ⟨j, hj, rfl⟩ := Option.map_eq_some_iff.mp e
    exact ⟨xs, k, v, j, rfl, rfl, rfl, hj, rfl⟩
  · cases e
def sSetI (i : Nat) (fi fv : En → Option (DV × En)) : Bk := fun env => (fv env).bind fun v => (v.2.g i).bind fun _ => (fi v.2).bind fun k => (k.2.g i).bind fun l => (dSetI l k.1 v.1).map fun l' => .nx (k.2.set i (some l'))
theorem ss_setI (i : Nat) {x : Str} {p tp : Pos} {fi fv : En → Option (DV × En)} (hv : SE X e fv) (hix : SE X a fi) (hN : X.N[i]? = some x := by rfl) (hvis : Vis X.env.scope x := by first | exact Or.inl rfl | exact Or.inr (Or.inl rfl) | exact Or.inr (Or.inr rfl)) (hd : (x == ("__debug__" : Str)) = false := by decide)
    (hcd : (x == ("__classdict__" : Str)) = false := by decide)
    (ha : ∀ v, assign (.Subscript (.Name x p) a tp) X.env v = (do
      let ov ← holding [v] (eval (.Name x p) X.env)
      let iv ← holding [v, ov] (eval a X.env)
      standAt tp
      holding [v, ov, iv] (setItem ov iv v)
      release [v, ov, iv] []) := by intro _; rfl)
    (hs : swapsWithSole [.Subscript (.Name x p) a tp] e pos.line X.env = pure false := by rfl) (hw : swappedStores [.Subscript (.Name x p) a tp] e X.env = pure none := by rfl)
    (h1 : (assignEach [.Subscript (.Name x p) a tp] X.env).map (·.2) = [assign (.Subscript (.Name x p) a tp) X.env] := by rfl) : SS X fx (.Assign [.Subscript (.Name x p) a tp] e pos) (sSetI i fi fv) := by
  refine ⟨ps_imp (ps_asg hv.pe (pg_sub (pe_var hN hvis hd hcd) hix.pe set_list ha) hs hw h1) ?_⟩
  rintro D σ H ⟨env, F, B, o, hS, dj, hb, k⟩
  obtain ⟨⟨d1, e1⟩, h1, hb⟩ := Option.bind_eq_some_iff.mp hb
  obtain ⟨l0, h0, hb⟩ := Option.bind_eq_some_iff.mp hb
  obtain ⟨⟨d2, e2⟩, h2, hb⟩ := Option.bind_eq_some_iff.mp hb
  obtain ⟨l, h3, hb⟩ := Option.bind_eq_some_iff.mp hb
  obtain ⟨l', h4, rfl⟩ := Option.map_eq_some_iff.mp hb
  refine ⟨env, F, B, d1, e1, hS, dj, h1, fun v H1 F1 B1 G k1 S1 n1 b1 r g dg => ?_⟩
  obtain ⟨v0, _, _, ev0, _⟩ := S1.get (En.g_some h0)
  have dj1 : Disj F1 B1 := dj_of hS dj n1 b1
  refine ⟨v0, ev0, e1, F1, B1, d2, e2, S1, dj1, h2, fun w H2 F2 B2 G2 k2 S2 n2 b2 r2 g2 dg2 => ?_⟩
  have n12 := Nw.trans k1 n1 n2
  have dj2 : Disj F2 B2 := dj_of hS dj n12 (b1.trans b2)
  obtain ⟨v1, G1, C1, ev1, r1, s1, s2, put⟩ := put_go S2 dj2 h3
  rw [ev0] at ev1
  cases ev1
  obtain ⟨xs, kk, pv, j, rfl, rfl, rfl, hj, rfl⟩ := dSetI_inv h4
  cases r1 with
  | @lst a vs _ h r1 =>
    obtain ⟨rp, _, _⟩ := r.pure
    obtain ⟨rp2, _, _⟩ := r2.pure
    cases rp2
    have rv2 : RP X.K H2 v pv := rp.ext (k2.tups fun x q => S1.own x q)
    have ks := keep_lst (ws := vs.set j v) h
    obtain ⟨F', B', S', u1, u2⟩ := put a vs (vs.set j v) (.lst (xs.set j pv)) [a] [] h (by simp) (.lst upd_same ((r1.set rv2 j).ext ks)) (fun x q => .inl q) fun _ q => nomatch q
    refine ⟨a, vs, kk, j, rfl, rfl, h, by rw [r1.length]; exact hj, ?_⟩
    exact k σ _ F' B' ((k1.trans k2 n1).trans (keep_upd (s1 a (by simp))) n12) S' (fun x q => (u1 x q).elim (n12 x) fun z => nomatch z) (fun x q => b1 x (b2 x (u2 x q))) Fx.self
/-- x op= e -/
def sAug (i : Nat) (g : DV → DV → Option DV) (f : En → Option (DV × En)) : Bk := fun env => match env.g i with
  | some (.p y) => (f env).bind fun x => (g (.p y) x.1).bind fun d => (gSet i d x.2).map .nx
  | _ => none
theorem ss_aug (i : Nat) {x : Str} {p : Pos} {op : Operator} {g : DV → DV → Option DV} {f : En → Option (DV × En)} (hN : X.N.Nodup) (ho : SOp X (inplaceOp op) g) (he : SE X e f) (hi : X.N[i]? = some x := by rfl) (hx : Loc X.env.scope x := by first | exact Or.inl rfl | exact Or.inr rfl)
    (hf : X.fn x = true ∨ X.env.scope.names.lookup x = some .local := by first | exact .inl rfl | exact .inr rfl) (hfx : fx i = false := by rfl) : SS X fx (.AugAssign (.Name x p) op e pos) (sAug i g f) := by
  refine ⟨ps_imp (ps_aug hN hi hx he.pe ho hf) ?_⟩
  rintro D σ H ⟨env, F, B, o, hS, dj, hb, k⟩
  unfold sAug at hb
  split at hb
  · rename_i y hy
    obtain ⟨⟨d1, e1⟩, h1, hb⟩ := Option.bind_eq_some_iff.mp hb
    obtain ⟨d, h2, hb⟩ := Option.bind_eq_some_iff.mp hb
    obtain ⟨e2, h3, rfl⟩ := Option.map_eq_some_iff.mp hb
    obtain ⟨v, G0, C0, ev, r0, _, _⟩ := hS.get (En.g_some hy)
    obtain ⟨rp, rfl, rfl⟩ := r0.pure
    refine ⟨v, ev, env, F, B, d1, e1, hS, dj, h1, fun w H1 F1 B1 G k1 S1 n1 b1 r g dg => ?_⟩
    have rp1 : RP X.K H1 v y := rp.ext (k1.tups fun x q => hS.own x q)
    refine ⟨_, [], [], d1, G, [], d, .p rp1, r, h2, fun z H2 G2 sm r2 n2 => ?_⟩
    unfold gSet at h3
    split at h3
    · rename_i hlt
      cases h3
      have S2 := S1.same sm
      obtain ⟨F', B', S', u1, u2⟩ := S2.set hlt r2 fun a q z => by
        obtain ⟨o, e, _⟩ := S1.own a z
        rw [n2 a q] at e; cases e
      have k2 : Keep F H H2 := k1.trans (F1 := F) sm.keep fun x q => .inl q
      refine k _ H2 F' B' k2 S' (fun a q => ?_) (fun a q => (u2 a q).elim (fun z => nomatch z) (b1 a)) fun j hj => ?_
      · rcases u1 a q with q | q
        · exact nw_upd k1 (n2 a q)
        · exact n1 a q
      · rw [List.getElem?_set_ne]
        rintro rfl
        rw [hfx] at hj; cases hj
    · cases h3
  · cases hb
theorem sip_add : SOp X (inplaceOp .Add) (dII fun i j => some (.p (.int (i + j)))) := sop_ii (h := fun i j => i + j) (op_rI0 iop_add) fun i j d e => ⟨trivial, by cases e; rfl⟩
theorem sip_sub : SOp X (inplaceOp .Sub) dSub := sop_ii (h := fun i j => i - j) (op_rI0 iop_sub) fun i j d e => ⟨trivial, by cases e; rfl⟩
theorem sip_mul : SOp X (inplaceOp .Mult) dMulIp := sop_ii (h := fun i j => i * j) iop_mul fun i j d e => by
  split at e
  · rename_i h
    cases e
    have h1 := lg_lt h (by decide)
    exact ⟨.inr ⟨by omega, by omega⟩, rfl⟩
  · cases e
end
end Sm

set_option Elab.async false
set_option linter.all false
set_option maxRecDepth 100000
/-! S8: names locked while they are walked; comprehensions. -/
namespace Sm
open PySem PySem.Spec PyProof.Rows L2
def En.o (env : En) (i : Nat) : Option DV := match env[i]? with
  | some o => o
  | none => none
section
variable {K : PySem.W.Frag} {H H' : Hp} {σ : Sg} {env e : En} {F B : Fp}
/-- a slot of which nothing is said may hold anything -/
theorem StR.sig (h : StR K H σ env F B) {i : Nat} (e : env.o i = none) (o : Option V) : StR K H (σ.set i o) env F B := by
  induction h generalizing i with
  | nil => exact .nil
  | non h ih =>
    cases i with
    | zero => exact .non h
    | succ i => exact .non (ih (i := i) (by simpa [En.o] using e))
  | som r h dj ih =>
    cases i with
    | zero => simp [En.o] at e
    | succ i => exact .som r (ih (i := i) (by simpa [En.o] using e)) dj
theorem o_set_none (env : En) (i : Nat) : En.o (env.set i none) i = none := by
  unfold En.o
  by_cases h : i < env.length
  · rw [List.getElem?_set_self h]
  · rw [List.getElem?_eq_none (by simpa using h)]
theorem o_some {env : En} {i : Nat} {d : DV} (h : env.o i = some d) : env[i]? = some (some d) := by
  unfold En.o at h
  split at h
  · rename_i e; rw [e, h]
  · cases h
theorem set_o_none {env : En} {i : Nat} (h : env.o i = none) : env.set i none = env := by
  unfold En.o at h
  split at h
  · rename_i e
    subst h
    exact set_self e
  · rename_i e
    rw [List.set_eq_of_length_le (by simpa using e)]
theorem set_set_self {α : Type} {l : List α} {i : Nat} {x y : α} (h : l[i]? = some x) : (l.set i y).set i x = l := by
  rw [List.set_set, set_self h]
/-- a slot hidden for a while, and given back -/
theorem hide1 (hS : StR K H σ env F B) (dj : Disj F B) (v : Nat) : ∃ F1 B1, StR K H (σ.set v none) (env.set v none) F1 B1 ∧ (∀ a ∈ F1, a ∈ F) ∧ Sb B B1 ∧
    ∀ (H' : Hp) (e : En) (F2 B2 Bt : Fp), e.length = env.length → Keep F1 H H' → StR K H' (σ.set v none) e F2 B2 → Nw F1 H F2 → Sb Bt B → Sb Bt B2 → ∃ F3 B3, StR K H' σ (e.set v (env.o v)) F3 B3 ∧ Nw F H F3 ∧ Sb Bt B3 ∧ ∀ a ∈ F3, a ∈ F2 ∨ (a ∈ F ∧ a ∉ F1) := by
  cases ho : env.o v with
  | none =>
    obtain ⟨F1, B1, S1, u1, u2⟩ := hS.unset v
    refine ⟨F1, B1, S1.sig (o_set_none _ _) none, u1, u2, fun H' e F2 B2 Bt hl k S2 n bt b => ?_⟩
    obtain ⟨F3, B3, S3, w1, w2⟩ := S2.unset v
    refine ⟨F3, B3, ?_, fun a q => (n a (w1 a q)).imp (u1 a) id, fun a q => b a (w2 a q), fun a q => .inl (w1 a q)⟩
    by_cases hv : v < σ.length
    · have := S3.sig (o_set_none _ _) (σ[v])
      rw [set_set_self (List.getElem?_eq_getElem hv)] at this
      exact this
    · rw [List.set_eq_of_length_le (by omega)] at S3
      exact S3
  | some d =>
    obtain ⟨w, G, C, F1, B1, e1, r, s1, s2, S1, u1, u2, dg⟩ := hS.take (o_some ho)
    refine ⟨F1, B1, S1.sig (o_set_none _ _) none, u1, u2, fun H' e F2 B2 Bt hl k S2 n bt b => ?_⟩
    have own1 : ∀ x ∈ F1, ∃ o, H x = some o ∧ Mub o := S1.own
    have r' : Rp K H' w d G C := r.keep k own1 (fun a q z => dg a z q) fun a q z => dj a (u1 a q) (s2 a z)
    have hv : v < e.length := by
      have := (List.getElem?_eq_some_iff.mp (o_some ho)).1
      omega
    obtain ⟨F3, B3, S3, w1, w2⟩ := S2.set hv r' fun a q z => by
      rcases n a z with z | z
      · exact dg a q z
      · obtain ⟨o, e, _⟩ := r.own a q
        rw [z] at e; cases e
    rw [List.set_set, set_self e1] at S3
    refine ⟨F3, B3, S3, fun a q => ?_, fun a q => ?_, fun a q => ?_⟩
    · rcases w1 a q with q | q
      · exact .inl (s1 a q)
      · exact (n a q).imp (u1 a) id
    · rcases w2 a q with q | q
      · exact bt a (s2 a q)
      · exact b a q
    · rcases w1 a q with q | q
      · exact .inr ⟨s1 a q, dg a q⟩
      · exact .inl q
def wipeE (env : En) : List Nat → En
  | [] => env
  | v :: vs => (wipeE env vs).set v none
def resE (env : En) : List Nat → En → En
  | [], e => e
  | v :: vs, e => resE env vs (e.set v ((wipeE env vs).o v))
theorem wipeE_length (env : En) : ∀ vs, (wipeE env vs).length = env.length
  | [] => rfl
  | v :: vs => by unfold wipeE; rw [List.length_set, wipeE_length env vs]
theorem hideL (hS : StR K H σ env F B) (dj : Disj F B) : ∀ (vs : List Nat), ∃ F1 B1, StR K H (wipe σ vs) (wipeE env vs) F1 B1 ∧ (∀ a ∈ F1, a ∈ F) ∧ Sb B B1 ∧
    ∀ (H' : Hp) (e : En) (F2 B2 Bt : Fp), e.length = env.length → Keep F1 H H' → StR K H' (wipe σ vs) e F2 B2 → Nw F1 H F2 → Sb Bt B → Sb Bt B2 → ∃ F3 B3, StR K H' σ (resE env vs e) F3 B3 ∧ Nw F H F3 ∧ Sb Bt B3 ∧ ∀ a ∈ F3, a ∈ F2 ∨ (a ∈ F ∧ a ∉ F1)
  | [] => ⟨F, B, hS, fun _ q => q, Sb.self, fun H' e F2 B2 Bt _ k S n bt b => ⟨F2, B2, S, n, b, fun a q => .inl q⟩⟩
  | v :: vs => by
    obtain ⟨F1, B1, S1, u1, u2, k1⟩ := hideL hS dj vs
    have dj1 : Disj F1 B1 := fun a q z => dj a (u1 a q) (u2 a z)
    obtain ⟨F2, B2, S2, w1, w2, k2⟩ := hide1 S1 dj1 v
    refine ⟨F2, B2, S2, fun a q => u1 a (w1 a q), fun a q => u2 a (w2 a q), fun H' e F3 B3 Bt hl k S3 n bt b => ?_⟩
    obtain ⟨F4, B4, S4, n4, b4, f4⟩ := k2 H' e F3 B3 Bt (by rw [hl, wipeE_length]) k S3 n (bt.trans u2) b
    have kk : Keep F1 H H' := fun c o ec nc => k c o ec fun z => nc (w1 c z)
    obtain ⟨F5, B5, S5, n5, b5, f5⟩ := k1 H' _ F4 B4 Bt (by rw [List.length_set, hl]) kk S4 n4 bt b4
    refine ⟨F5, B5, S5, n5, b5, fun a q => ?_⟩
    rcases f5 a q with q | ⟨q, z⟩
    · rcases f4 a q with q | ⟨q, z⟩
      · exact .inl q
      · exact .inr ⟨u1 a q, z⟩
    · exact .inr ⟨q, fun y => z (w1 a y)⟩
end

/-! ### comprehensions -/
def mkC (ys : List DV) : DV := match pures ys with
  | some xs => .lst xs
  | none => .ml ys
theorem mkC_ok {K : PySem.W.Frag} {H : Hp} {p : Addr} {vs : List V} {ys : List DV} {G : Fp} (e : H p = some (.lst vs)) (r : RpAll K H vs ys G []) (n : p ∉ G) : ∃ G', Rp K H (.ref p) (mkC ys) G' [] ∧ ∀ a ∈ G', a = p ∨ a ∈ G := by
  unfold mkC
  split
  · rename_i xs hx
    obtain ⟨rp, rfl, _⟩ := pures_ok r hx
    exact ⟨[p], .lst e rp, fun a q => .inl (by simpa using q)⟩
  · exact ⟨p :: G, .ml e r n (by simp), fun a q => List.mem_cons.mp q⟩
/-- one turn behind the other; a turn sees the names without the block's own -/
def compE (vs : List Nat) (t : DV → En → Option En) (c : En → Option (Bool × En)) (el : En → Option (DV × En)) : List DV → En → Option (List DV × En)
  | [], env => some ([], env)
  | d :: ds, env => match t d (wipeE env vs) with
    | none => none
    | some e1 => if e1.length = env.length then match c e1 with
      | some (true, e2) => match el e2 with
        | some (y, e3) => if e3.length = env.length then (compE vs t c el ds (wipeE e3 vs)).map fun r => (y :: r.1, r.2) else none
        | none => none
      | some (false, e2) => if e2.length = env.length then compE vs t c el ds (wipeE e2 vs) else none
      | none => none
      else none
def eComp (vs : List Nat) (f : En → Option (List DV × En)) (t : DV → En → Option En) (c : En → Option (Bool × En)) (el : En → Option (DV × En)) : En → Option (DV × En) := fun env => (f env).bind fun x =>
  if x.1.length ≤ sizeLine then (compE vs t c el x.1 (wipeE x.2 vs)).map fun r => (mkC r.1, resE x.2 vs r.2) else none
def compQ (vs : List Nat) (env : En) (t : DV → En → Option En) (c : En → Option Bool) (el : En → Option DV) : List DV → Option (List DV)
  | [] => some []
  | d :: ds => match t d (wipeE env vs) with
    | none => none
    | some e1 => if e1.length = env.length then match c e1 with
      | some true => match el e1 with
        | some y => if y.owned then (compQ vs env t c el ds).map fun r => y :: r else none
        | none => none
      | some false => compQ vs env t c el ds
      | none => none
      else none
def qComp (vs : List Nat) (f : En → Option (List DV)) (t : DV → En → Option En) (c : En → Option Bool) (el : En → Option DV) : En → Option DV := fun env => (f env).bind fun ds =>
  if ds.length ≤ sizeLine then (compQ vs env t c el ds).map mkC else none
def outOf (vs : List Nat) : Nat → Bool := fun i => !vs.contains i
theorem wipe_get (σ : Sg) (i : Nat) : ∀ vs : List Nat, (wipe σ vs)[i]? = if i ∈ vs ∧ i < σ.length then some none else σ[i]?
  | [] => by simp [wipe]
  | v :: vs => by
    unfold wipe
    rw [List.getElem?_set, wipe_get σ i vs, wipe_length]
    by_cases h : v = i
    · subst h
      by_cases hl : v < σ.length
      · simp [hl]
      · simp [hl]
    · simp [h, Ne.symm h]
theorem wipe_eq {σ σ2 : Sg} {vs : List Nat} (hl : σ2.length = σ.length) (h : Fx (outOf vs) (wipe σ vs) σ2) : wipe σ2 vs = wipe σ vs := by
  apply List.ext_getElem?
  intro i
  rw [wipe_get, wipe_get, hl]
  by_cases hi : i ∈ vs
  · by_cases h2 : i < σ.length
    · simp [hi, h2]
    · have e1 : σ[i]? = none := List.getElem?_eq_none (by omega)
      have e2 : σ2[i]? = none := List.getElem?_eq_none (by omega)
      simp [hi, h2, e1, e2]
  · have := h i (by simp [outOf, hi])
    rw [wipe_get] at this
    simp [hi] at this ⊢
    exact this
structure STs (X : Cx) (ifs : List Expr) (c : En → Option (Bool × En)) : Prop where
  pt : PTs X ifs (rT X.K c)
structure SQTs (X : Cx) (ifs : List Expr) (c : En → Option Bool) : Prop where
  pt : PTs X ifs (fun σ H Q => ∃ env F B b, StR X.K H σ env F B ∧ Disj F B ∧ c env = some b ∧ ∀ H', Same H H' → Q b H')
theorem pts_imp {X : Cx} {e : List Expr} {t t' : TT} (h : PTs X e t) (i : ∀ σ H Q, t' σ H Q → t σ H Q) : PTs X e t' := ⟨fun pins s σ H Q I hq => h.run pins s σ H Q I (i _ _ _ hq)⟩
def cYes : En → Option (Bool × En) := fun env => some (true, env)
def cYesQ : En → Option Bool := fun _ => some true
section
variable {X : Cx} {a b e elt : Expr} {tg iter : Expr} {ifs : List Expr} {scope : Scope} {pos : Pos}
theorem sts_nil : STs X [] cYes := by
  refine ⟨pts_imp pts_nil ?_⟩
  rintro σ H Q ⟨env, F, B, b, env', hS, dj, ht, k⟩
  cases ht
  exact k H F B Keep.refl hS Nw.self Sb.self
theorem sts_one {c : En → Option (Bool × En)} (h : ST X e c) : STs X [e] c := ⟨pts_one h.pt⟩
theorem sqts_nil : SQTs X [] cYesQ := by
  refine ⟨pts_imp pts_nil ?_⟩
  rintro σ H Q ⟨env, F, B, b, hS, dj, ht, k⟩
  cases ht
  exact k H (Same.refl H)
theorem sqts_one {c : En → Option Bool} (h : SQT X e c) : SQTs X [e] c := ⟨pts_one h.pt⟩
theorem comp_impE (vs : List Nat) {f : En → Option (List DV × En)} {t : DV → En → Option En} {c : En → Option (Bool × En)} {el : En → Option (DV × En)} (σ : Sg) (H : Hp) (Q : VK) (hq : rE X.K (eComp vs f t c el) σ H Q) : tLc (rIt X.K f) (rG X.K (outOf vs) t) (rT X.K c) (rE X.K el) vs σ H Q := by
  obtain ⟨env, F, B, d, envE, hS, dj, hf, k⟩ := hq
  obtain ⟨⟨ds, e0⟩, h1, hf⟩ := Option.bind_eq_some_iff.mp hf
  dsimp only at hf
  split at hf
  · rename_i hsz
    obtain ⟨⟨all, eEnd⟩, h2, h3⟩ := Option.map_eq_some_iff.mp hf
    cases h3
    refine ⟨env, F, B, ds, e0, hS, dj, h1, fun J H0 F0 B0 C Ci k0 S0 n0 b0 hC hCi it => ?_⟩
    intro D hD
    have dj0 : Disj F0 B0 := dj_of hS dj n0 b0
    obtain ⟨Fw, Bw, Sw, fw, bw, back⟩ := hideL S0 dj0 vs
    have djw : Disj Fw Bw := fun a q z => dj0 a (fw a q) (bw a z)
    have smD : Same H0 (upd H0 D (.lst [])) := same_upd hD
    have DF0 : D ∉ F0 := fun z => by
      obtain ⟨o, e, _⟩ := S0.own D z
      rw [hD] at e; cases e
    refine ⟨fun i m H1 => m = ds.length - i ∧ i ≤ ds.length ∧ ∃ e1 F1 B1 acc ys G zs, e1.length = e0.length ∧ StR X.K H1 (wipe σ vs) e1 F1 B1 ∧ Keep Fw H0 H1 ∧ Nw Fw H0 F1 ∧ Sb B0 B1 ∧ H1 D = some (.lst acc) ∧ RpAll X.K H1 acc ys G [] ∧
        D ∉ G ∧ D ∉ F1 ∧ Disj G F1 ∧ Nw Fw H0 G ∧ ys.length ≤ i ∧ compE vs t c el (ds.drop i) e1 = some (zs, eEnd) ∧ ys ++ zs = all,
      ⟨_, rfl, Nat.zero_le _, wipeE e0 vs, Fw, Bw, [], [], [], all, wipeE_length e0 vs, Sw.same smD, smD.keep, Nw.self, bw, upd_same, .nil, (by simp), (fun z => DF0 (fw D z)), (fun _ q => nomatch q), (fun _ q => nomatch q), Nat.le_refl _, h2, rfl⟩, ?_⟩
    rintro i m H1 ⟨rfl, hil, e1, F1, B1, acc, ys, G, zs, hle, S1, k1, n1, b1, hDa, rG1, dG, dF1, djG, nG, hyl, hcomp, hall⟩
    have own0 : ∀ x ∈ Fw, ∃ o, H0 x = some o ∧ Mub o := fun x q => S0.own x (fw x q)
    have tk : TupKeep H0 H1 := k1.tups own0
    have hC1 : ∀ a ∈ C, H1 a = H0 a := fun a q => k1.at (hC a q).2 fun z => (hC a q).1 (fw a z)
    have hCi1 : ∀ a ∈ Ci, H1 a = H0 a := fun a q => k1.at (S0.lent a (hCi a q)) fun z => dj0 a (fw a z) (hCi a q)
    obtain ⟨stop, step⟩ := it i H1 tk hC1 hCi1
    by_cases hlt : i < ds.length
    · have hd : ds[i]? = some ds[i] := List.getElem?_eq_getElem hlt
      obtain ⟨go, yld⟩ := step _ hd
      refine .inr ⟨go, ?_⟩
      rw [List.drop_eq_getElem_cons hlt] at hcomp
      simp only [compE] at hcomp
      have dj1 : Disj F1 B1 := fun a q z => by
        rcases n1 a q with q | q
        · exact dj0 a (fw a q) (b1 a z)
        · obtain ⟨o, e⟩ := S0.lent a (b1 a z)
          rw [q] at e; cases e
      split at hcomp
      · cases hcomp
      · rename_i e2 hte
        split at hcomp
        · rename_i hl2
          -- what the next turn begins with
          refine ⟨fun H2 => ∃ e1 F1 B1 acc ys G zs, e1.length = e0.length ∧ StR X.K H2 (wipe σ vs) e1 F1 B1 ∧ Keep Fw H0 H2 ∧ Nw Fw H0 F1 ∧ Sb B0 B1 ∧ H2 D = some (.lst acc) ∧ RpAll X.K H2 acc ys G [] ∧
            D ∉ G ∧ D ∉ F1 ∧ Disj G F1 ∧ Nw Fw H0 G ∧ ys.length ≤ i + 1 ∧ compE vs t c el (ds.drop (i + 1)) e1 = some (zs, eEnd) ∧ ys ++ zs = all,
            fun H2 ⟨e1, F1, B1, acc, ys, G, zs, q⟩ => ⟨ds.length - (i + 1), by omega, rfl, hlt, e1, F1, B1, acc, ys, G, zs, q⟩, fun x H2 hy => ?_⟩
          obtain ⟨sm, C', rx, cx⟩ := yld x H2 hy
          -- the block's own names hidden once more
          have S1b : StR X.K H2 (wipe σ vs) e1 F1 B1 := S1.same sm
          obtain ⟨F1w, B1w, S1w, f1w, b1w, _⟩ := hideL S1b dj1 vs
          have ww : wipe (wipe σ vs) vs = wipe σ vs := by
            apply List.ext_getElem?
            intro j
            rw [wipe_get, wipe_get, wipe_length]
            by_cases hj : j ∈ vs ∧ j < σ.length <;> simp [hj]
          rw [ww] at S1w
          have B0B : ∀ a, a ∈ C' → a ∉ F1 := fun a q z => by
            rcases n1 a z with z | z
            · exact dj0 a (fw a z) (hCi a (cx a q))
            · obtain ⟨o, e⟩ := S0.lent a (hCi a (cx a q))
              rw [z] at e; cases e
          refine ⟨wipeE e1 vs, F1w, B1w, ds[i], [], C', e2, S1w, (fun a q z => dj1 a (f1w a q) (b1w a z)), rx, (fun _ q => nomatch q), (fun _ q => nomatch q), (fun a q z => B0B a z (f1w a q)), (fun _ q => nomatch q), hte, fun σ3 H3 F3 B3 k3 S3 n3 b3 x3 => ?_⟩
          rw [List.append_nil] at k3
          have k12 : Keep Fw H0 H2 := k1.trans (F1 := Fw) sm.keep fun x q => .inl q
          have n1w : Nw Fw H0 F1w := fun a q => n1 a (f1w a q)
          have k13 : Keep Fw H0 H3 := k12.trans k3 n1w
          have n13 : Nw Fw H0 F3 := fun a q => by
            rcases n3 a q with q | q | q
            · exact n1w a q
            · cases q
            · exact nw_upd k12 q
          have f3' : ∀ a ∈ F3, a ∈ F1 ∨ H2 a = none := fun a q => by
            rcases n3 a q with q | q | q
            · exact .inl (f1w a q)
            · cases q
            · exact .inr q
          have b13 : ∀ a ∈ B3, a ∈ B0 := fun a q => (b3 a q).elim (fun z => b1 a (b1w a z)) fun z => hCi a (cx a z)
          have dj3 : Disj F3 B3 := fun a q z => by
            rcases n13 a q with q | q
            · exact dj0 a (fw a q) (b13 a z)
            · obtain ⟨o, e⟩ := S0.lent a (b13 a z)
              rw [q] at e; cases e
          have hσl : σ3.length = σ.length := by
            have a1 := S3.len
            have a2 := S1.len
            rw [wipe_length] at a2
            rw [a1, hl2, a2]
          refine ⟨wipe_eq hσl x3, ?_⟩
          have hD2 : H2 D = some (.lst acc) := sm D _ hDa
          have DF1w : D ∉ F1w := fun z => dF1 (f1w D z)
          have hD3 : H3 D = some (.lst acc) := k3 D _ hD2 DF1w
          have rG3 : RpAll X.K H3 acc ys G [] := (rG1.same sm).ext (k3.tups S1w.own) (fun a q => k3.at (let ⟨o, e, _⟩ := (rG1.same sm).own a q; ⟨o, e⟩) fun z => djG a q (f1w a z)) fun _ q => nomatch q
          have dF3 : D ∉ F3 := fun z => (f3' D z).elim dF1 fun q => by rw [hD2] at q; cases q
          have djG3 : Disj G F3 := fun a q z => by
            rcases f3' a z with z | z
            · exact djG a q z
            · obtain ⟨o, e, _⟩ := (rG1.same sm).own a q
              rw [z] at e; cases e
          split at hcomp
          · rename_i e4 h4
            split at hcomp
            · rename_i y e5 h5
              split at hcomp
              · rename_i hl5
                obtain ⟨⟨zs', eE'⟩, hrec, hz⟩ := Option.map_eq_some_iff.mp hcomp
                cases hz
                refine ⟨e2, F3, B3, true, e4, S3, dj3, h4, fun H4 F4 B4 k4 S4 n4 b4 => ?_⟩
                refine iteT ?_
                have n14 := Nw.trans k13 n13 n4
                have b14 : ∀ a ∈ B4, a ∈ B0 := fun a q => b13 a (b4 a q)
                have dj4 : Disj F4 B4 := fun a q z => by
                  rcases n14 a q with q | q
                  · exact dj0 a (fw a q) (b14 a z)
                  · obtain ⟨o, e⟩ := S0.lent a (b14 a z)
                    rw [q] at e; cases e
                refine ⟨e4, F4, B4, y, e5, S4, dj4, h5, fun w H5 F5 B5 Gy k5 S5 n5 b5 r5 g5 d5 => ?_⟩
                have k14 := k13.trans k4 n13
                have k15 := k14.trans k5 n14
                have hD4 : H4 D = some (.lst acc) := k4 D _ hD3 dF3
                have dF4 : D ∉ F4 := fun z => (n4 D z).elim dF3 fun q => by rw [hD3] at q; cases q
                have hD5 : H5 D = some (.lst acc) := k5 D _ hD4 dF4
                have djG4 : Disj G F4 := fun a q z => by
                  rcases n4 a z with z | z
                  · exact djG3 a q z
                  · obtain ⟨o, e, _⟩ := rG3.own a q
                    rw [z] at e; cases e
                have rG4 : RpAll X.K H4 acc ys G [] := rG3.ext (k4.tups S3.own) (fun a q => k4.at (let ⟨o, e, _⟩ := rG3.own a q; ⟨o, e⟩) fun z => djG3 a q z) fun _ q => nomatch q
                have rG5 : RpAll X.K H5 acc ys G [] := rG4.ext (k5.tups S4.own) (fun a q => k5.at (let ⟨o, e, _⟩ := rG4.own a q; ⟨o, e⟩) fun z => djG4 a q z) fun _ q => nomatch q
                have dF5 : D ∉ F5 := fun z => (n5 D z).elim dF4 fun q => by rw [hD4] at q; cases q
                have djG5 : Disj G F5 := fun a q z => by
                  rcases n5 a z with z | z
                  · exact djG4 a q z
                  · obtain ⟨o, e, _⟩ := rG4.own a q
                    rw [z] at e; cases e
                have dGy : D ∉ Gy := fun z => (g5 D z).elim dF4 fun q => by rw [hD4] at q; cases q
                have djGy : Disj G Gy := fun a q z => by
                  rcases g5 a z with z | z
                  · exact djG4 a q z
                  · obtain ⟨o, e, _⟩ := rG4.own a q
                    rw [z] at e; cases e
                have one : RpAll X.K H5 [w] [y] Gy [] := by
                  have := RpAll.cons (B := []) (C := []) (G := []) r5 .nil fun _ _ z => nomatch z
                  rw [List.append_nil] at this
                  exact this
                have allr : RpAll X.K H5 (acc ++ [w]) (ys ++ [y]) (G ++ Gy) [] := rG5.append one djGy
                have hal : acc.length < sizeLine := by rw [rG5.length]; omega
                refine ⟨acc, hD5, hal, ?_⟩
                have kD := keep_lst (ws := acc ++ [w]) hD5
                have S5' : StR X.K (upd H5 D (.lst (acc ++ [w]))) σ3 e5 F5 B5 := S5.ext kD (fun a q => upd_ne fun z => dF5 (z ▸ q)) fun a q => upd_ne fun z => by
                  subst z
                  obtain ⟨o, e⟩ := S0.lent a (b14 a (b5 a q))
                  rw [hD] at e; cases e
                have n15 := Nw.trans k14 n14 n5
                have b15 : ∀ a ∈ B5, a ∈ B0 := fun a q => b14 a (b5 a q)
                have dj5 : Disj F5 B5 := fun a q z => by
                  rcases n15 a q with q | q
                  · exact dj0 a (fw a q) (b15 a z)
                  · obtain ⟨o, e⟩ := S0.lent a (b15 a z)
                    rw [q] at e; cases e
                obtain ⟨F6, B6, S6, f6, b6, _⟩ := hideL S5' dj5 vs
                rw [wipe_eq hσl x3] at S6
                have kF : Keep Fw H0 (upd H5 D (.lst (acc ++ [w]))) := fun b o eb nb => by
                  rw [upd_ne (fun z => by subst z; rw [hD] at eb; cases eb)]
                  exact k15 b o eb nb
                have nDG : D ∉ G ++ Gy := fun z => (List.mem_append.mp z).elim dG dGy
                refine ⟨wipeE e5 vs, F6, B6, acc ++ [w], ys ++ [y], G ++ Gy, zs', by rw [wipeE_length, hl5, hle], S6, kF, fun a q => n15 a (f6 a q), fun a q => b15 a (b6 a q), upd_same, allr.ext kD (fun a q => upd_ne fun z => nDG (z ▸ q)) (fun _ q => nomatch q), nDG, fun z => dF5 (f6 D z), fun a q z => ?_, fun a q => ?_, by rw [List.length_append]; simp; omega, hrec, by rw [← hall]; simp⟩
                · rcases List.mem_append.mp q with q | q
                  · exact djG5 a q (f6 a z)
                  · exact d5 a q (f6 a z)
                · rcases List.mem_append.mp q with q | q
                  · exact nG a q
                  · exact Nw.trans k14 n14 g5 a q
              · cases hcomp
            · cases hcomp
          · rename_i e4 h4
            split at hcomp
            · rename_i hl4
              refine ⟨e2, F3, B3, false, e4, S3, dj3, h4, fun H4 F4 B4 k4 S4 n4 b4 => ?_⟩
              refine iteF ?_
              have n14 := Nw.trans k13 n13 n4
              have b14 : ∀ a ∈ B4, a ∈ B0 := fun a q => b13 a (b4 a q)
              have dj4 : Disj F4 B4 := fun a q z => by
                rcases n14 a q with q | q
                · exact dj0 a (fw a q) (b14 a z)
                · obtain ⟨o, e⟩ := S0.lent a (b14 a z)
                  rw [q] at e; cases e
              have hD4 : H4 D = some (.lst acc) := k4 D _ hD3 dF3
              have dF4 : D ∉ F4 := fun z => (n4 D z).elim dF3 fun q => by rw [hD3] at q; cases q
              have djG4 : Disj G F4 := fun a q z => by
                rcases n4 a z with z | z
                · exact djG3 a q z
                · obtain ⟨o, e, _⟩ := rG3.own a q
                  rw [z] at e; cases e
              have rG4 : RpAll X.K H4 acc ys G [] := rG3.ext (k4.tups S3.own) (fun a q => k4.at (let ⟨o, e, _⟩ := rG3.own a q; ⟨o, e⟩) fun z => djG3 a q z) fun _ q => nomatch q
              obtain ⟨F6, B6, S6, f6, b6, _⟩ := hideL S4 dj4 vs
              rw [wipe_eq hσl x3] at S6
              exact ⟨wipeE e4 vs, F6, B6, acc, ys, G, zs, by rw [wipeE_length, hl4, hle], S6, k13.trans k4 n13, fun a q => n14 a (f6 a q), fun a q => b14 a (b6 a q), hD4, rG4, dG, fun z => dF4 (f6 D z), fun a q z => djG4 a q (f6 a z), nG, by omega, hcomp, hall⟩
            · cases hcomp
          · cases hcomp
        · cases hcomp
    · have e : i = ds.length := by omega
      subst e
      rw [List.drop_length] at hcomp
      cases hcomp
      rw [List.append_nil] at hall
      subst hall
      obtain ⟨F3, B3, S3, n3, b3, f3⟩ := back H1 _ F1 B1 B0 hle k1 S1 n1 Sb.self b1
      obtain ⟨G', rG', g'⟩ := mkC_ok hDa rG1 dG
      have kw : Keep F0 H0 H1 := fun c o ec nc => k1 c o ec fun z => nc (fw c z)
      have kk : Keep F H H1 := k0.trans kw n0
      refine .inl ⟨stop (Nat.le_refl _), k _ H1 F3 B3 G' kk S3 (Nw.trans k0 n0 n3) (b0.trans b3) rG' (fun a q => ?_) fun a q z => ?_⟩
      · rcases g' a q with rfl | q
        · exact nw_upd k0 hD
        · exact Nw.trans k0 n0 (fun x q => (nG x q).imp (fw x) id) a q
      · rcases f3 a z with z | ⟨z, z2⟩
        · rcases g' a q with rfl | q
          · exact dF1 z
          · exact djG a q z
        · rcases g' a q with rfl | q
          · exact DF0 z
          · rcases nG a q with q | q
            · exact z2 q
            · obtain ⟨o, e, _⟩ := S0.own a z
              rw [q] at e; cases e
  · cases hf
theorem se_comp (own : List (Str × Nat)) {f : En → Option (List DV × En)} {t : DV → En → Option En} {c : En → Option (Bool × En)} {el : En → Option (DV × En)} (hN : X.N.Nodup) (hi : SI X tg iter f) (ok : blkC X.N X.env.scope scope own = true)
    (hg : ∀ (s : Shared) (H : Hp) (C : Addr) (cl : List (Str × Addr)) (fp : List Addr), STg (X.blk s H scope (compEnvC scope cl C X.env) fp) (outOf (own.map (·.2))) tg t)
    (ht : ∀ (s : Shared) (H : Hp) (C : Addr) (cl : List (Str × Addr)) (fp : List Addr), STs (X.blk s H scope (compEnvC scope cl C X.env) fp) ifs c)
    (he : ∀ (s : Shared) (H : Hp) (C : Addr) (cl : List (Str × Addr)) (fp : List Addr), SE (X.blk s H scope (compEnvC scope cl C X.env) fp) elt el)
    (hc : X.calm = true := by rfl) (hs : ∀ x, foldedSetIterable iter X.env x = pure x := by intro _; rfl) :
    SE X (.ListComp elt [⟨tg, iter, ifs, 0⟩] scope pos) (eComp (own.map (·.2)) f t c el) := by
  generalize hvs : own.map (·.2) = vs at hg ⊢
  have base := pe_lc (pos := pos) (te := rE X.K el) (tt := rT X.K c) (g := rG X.K (outOf vs) t) hc hN hi.pi (blkOk_by ok) (fun s H C cl fp => (hg s H C cl fp).pg) (fun s H C cl fp => (ht s H C cl fp).pt) (fun s H C cl fp => (he s H C cl fp).pe) hs
  rw [hvs] at base
  exact ⟨pe_imp base fun σ H Q => comp_impE vs σ H Q⟩
theorem ss_setLc (i : Nat) {y : Str} {py spos : Pos} {fx : Nat → Bool} (own : List (Str × Nat)) {f : En → Option (List DV × En)} {t : DV → En → Option En} {c : En → Option (Bool × En)} {el : En → Option (DV × En)} (hN : X.N.Nodup) (hi : SI X tg iter f) (ok : blkC X.N X.env.scope scope own = true)
    (hg : ∀ (s : Shared) (H : Hp) (C : Addr) (cl : List (Str × Addr)) (fp : List Addr), STg (X.blk s H scope (compEnvC scope cl C X.env) fp) (outOf (own.map (·.2))) tg t)
    (ht : ∀ (s : Shared) (H : Hp) (C : Addr) (cl : List (Str × Addr)) (fp : List Addr), STs (X.blk s H scope (compEnvC scope cl C X.env) fp) ifs c)
    (he : ∀ (s : Shared) (H : Hp) (C : Addr) (cl : List (Str × Addr)) (fp : List Addr), SE (X.blk s H scope (compEnvC scope cl C X.env) fp) elt el)
    (hsw : swapsWith (.ListComp elt [⟨tg, iter, ifs, 0⟩] scope pos) (some (.Name y py)) spos.line X.env = pure true := by rfl) (hy : X.N[i]? = some y := by rfl) (hyl : X.env.scope.names.lookup y = some .local := by rfl)
    (hc : X.calm = true := by rfl) (hs : ∀ x, foldedSetIterable iter X.env x = pure x := by intro _; rfl) (hfx : fx i = false := by rfl) :
    SS X fx (.Assign [.Name y py] (.ListComp elt [⟨tg, iter, ifs, 0⟩] scope pos) spos) (sAsg (eComp (own.map (·.2)) f t c el) (gSet i)) := by
  generalize hvs : own.map (·.2) = vs at hg ⊢
  have base := ps_setLc (i := i) (py := py) (spos := spos) (pos := pos) (te := rE X.K el) (tt := rT X.K c) (g := rG X.K (outOf vs) t) hc hN hy hyl hsw hi.pi (blkOk_by ok) (fun s H C cl fp => (hg s H C cl fp).pg) (fun s H C cl fp => (ht s H C cl fp).pt) (fun s H C cl fp => (he s H C cl fp).pe) hs
  rw [hvs] at base
  exact ⟨ps_imp base fun D σ H h => comp_impE vs σ H _ (set_go hfx h)⟩
end
end Sm

set_option Elab.async false
set_option linter.all false
set_option maxRecDepth 100000
/-! S9: quiet comprehensions; locks; defs and their calls. -/
namespace Sm
open PySem PySem.Spec PyProof.Rows L2
def lendE (env : En) : En := env.map fun o => match o with
  | some d => some d.lend
  | none => none
theorem StR.lendE {K : PySem.W.Frag} {H : Hp} {σ : Sg} {env : En} {F B : Fp} (h : StR K H σ env F B) : ∃ C, StR K H σ (lendE env) [] C ∧ ∀ a ∈ C, a ∈ F ∨ a ∈ B := by
  induction h with
  | nil => exact ⟨[], .nil, fun _ q => nomatch q⟩
  | non h ih =>
    obtain ⟨C, h', s⟩ := ih
    exact ⟨C, .non h', s⟩
  | @som v d σ env F G B C r h dj ih =>
    obtain ⟨C1, h', s⟩ := ih
    obtain ⟨C0, r', s0⟩ := r.lend
    refine ⟨C0 ++ C1, .som (F := []) (G := []) r' h' (fun _ q => nomatch q), fun a q => ?_⟩
    rcases List.mem_append.mp q with q | q
    · exact (s0 a q).imp (List.mem_append_left _) (List.mem_append_left _)
    · exact (s a q).imp (List.mem_append_right _) (List.mem_append_right _)
def rIq (K : PySem.W.Frag) (f : En → Option (List DV)) : TI := fun σ H R => ∃ env F B ds, StR K H σ env F B ∧ Disj F B ∧ f env = some ds ∧
  ∀ J H' C Ci, Same H H' → (∀ a ∈ C, ∃ o, H' a = some o) → (∀ a ∈ Ci, a ∈ F ∨ a ∈ B) → ItR K H' J ds C Ci → R J H'
structure SIq (X : Cx) (tg iter : Expr) (f : En → Option (List DV)) : Prop where
  pi : PI X tg iter (rIq X.K f)
def fSeqQ (q : En → Option DV) : En → Option (List DV) := fun env => (q env).bind DV.itm
def fRng1Q (f : En → Option (List DV)) : En → Option (List DV) := fun env => (f env).bind fun x => match x with
  | [.p (.int n)] => if rngOk n then some (rgD 0 n) else none
  | _ => none
def fRng2Q (f : En → Option (List DV)) : En → Option (List DV) := fun env => (f env).bind fun x => match x with
  | [.p (.int m), .p (.int n)] => if rngOk m && rngOk n then some (rgD m n) else none
  | _ => none
section
variable {X : Cx} {a b e elt : Expr} {tg iter : Expr} {ifs : List Expr} {scope : Scope} {pos : Pos}
theorem siq_seq {q : En → Option DV} (h : SQ X iter q) : SIq X tg iter (fSeqQ q) := by
  refine ⟨pi_imp (pi_seq h.pe) ?_⟩
  rintro σ H R ⟨env, F, B, ds, hS, dj, hf, k⟩
  obtain ⟨d, h1, h3⟩ := Option.bind_eq_some_iff.mp hf
  refine ⟨env, F, B, d, hS, dj, h1, fun v H' G C sm r n c => ?_⟩
  cases r with
  | p r =>
    cases r with
    | tup t r =>
      cases h3
      exact .inr ⟨_, rfl, ⟨_, t.seq⟩, k _ H' [] [] sm (fun _ q => nomatch q) (fun _ q => nomatch q) (itr_tup t (RpAll.of_pure r))⟩
    | _ => cases h3
  | @lst a0 ws ys h r =>
    cases h3
    exact .inl ⟨_, rfl, ⟨_, .of h⟩, k _ H' [a0] [] sm (fun a q => by simp at q; subst q; exact ⟨_, h⟩) (fun _ q => nomatch q) (itr_list (.of h) ⟨_, h⟩ (RpAll.of_pure r) (by simp))⟩
  | @ro a0 ws ys h r =>
    cases h3
    exact .inl ⟨_, rfl, ⟨_, .of h⟩, k _ H' [a0] [] sm (fun a q => by simp at q; subst q; exact ⟨_, h⟩) (fun _ q => nomatch q) (itr_list (.of h) ⟨_, h⟩ (RpAll.of_pure r) (by simp))⟩
  | @fk a0 ws ys h r =>
    cases h3
    exact .inl ⟨_, rfl, ⟨_, h.seq H'⟩, k _ H' [] [] sm (fun _ q => nomatch q) (fun _ q => nomatch q) (itr_listK h (RpAll.of_pure r))⟩
  | @fz a0 o ws ys h r =>
    cases h3
    exact .inl ⟨_, rfl, ⟨_, .inl (.inr ⟨_, h⟩)⟩, k _ H' [a0] [] sm (fun a q => by simp at q; subst q; exact ⟨_, h⟩) (fun _ q => nomatch q) (itr_list (.inl (.inr ⟨_, h⟩)) ⟨_, h⟩ (RpAll.of_pure r) (by simp))⟩
  | @mr a0 ws ys B0 h r =>
    cases h3
    exact .inl ⟨_, rfl, ⟨_, .of h⟩, k _ H' [a0] B0 sm (fun a q => by simp at q; subst q; exact ⟨_, h⟩) (fun a q => c a (List.mem_cons_of_mem _ q)) (itr_list (.of h) ⟨_, h⟩ r (by simp))⟩
  | _ => cases h3
theorem siq_rng1 {p : Pos} {f : En → Option (List DV)} (ha : SA X [a] f) (hm : X.mg "range" = none) (hg : Gl X "range" := by rfl) (hs : starEach [a] X.env = [(false, eval a X.env)] := by rfl) : SIq X tg (.Call (.Name "range" p) [a] [] pos) (fRng1Q f) := by
  refine ⟨pi_imp (pi_range1 hg hm ha.pa hs) ?_⟩
  rintro σ H R ⟨env, F, B, ds, hS, dj, hf, k⟩
  obtain ⟨as, h1, h2⟩ := Option.bind_eq_some_iff.mp hf
  refine ⟨env, F, B, as, hS, dj, h1, fun vs H' G C sm r n c => ?_⟩
  split at h2
  · split at h2
    · rename_i n hn
      cases h2
      obtain ⟨v, rfl, r1⟩ := RpAll.one' r
      obtain ⟨rp, _, _⟩ := r1.pure
      cases rp
      obtain ⟨b1', b2'⟩ := rngOk_ok hn
      refine ⟨_, rfl, b1', b2', ?_⟩
      have := k (Itr 0 (n - 0).toNat) H' [] [] sm (fun _ q => nomatch q) (fun _ q => nomatch q) (itr_rng 0 n)
      rw [Int.sub_zero] at this
      exact this
    · cases h2
  · cases h2
theorem siq_rng2 {p : Pos} {f : En → Option (List DV)} (ha : SA X [a, b] f) (hm : X.mg "range" = none) (hg : Gl X "range" := by rfl) (hs : starEach [a, b] X.env = [(false, eval a X.env), (false, eval b X.env)] := by rfl) (hs2 : starEach [b] X.env = [(false, eval b X.env)] := by rfl) : SIq X tg (.Call (.Name "range" p) [a, b] [] pos) (fRng2Q f) := by
  refine ⟨pi_imp (pi_range2 hg hm ha.pa hs hs2) ?_⟩
  rintro σ H R ⟨env, F, B, ds, hS, dj, hf, k⟩
  obtain ⟨as, h1, h2⟩ := Option.bind_eq_some_iff.mp hf
  refine ⟨env, F, B, as, hS, dj, h1, fun vs H' G C sm r n c => ?_⟩
  split at h2
  · split at h2
    · rename_i m n hn
      cases h2
      rw [Bool.and_eq_true] at hn
      obtain ⟨v, w, G1, C1, G2, C2, rfl, r1, r2⟩ := RpAll.two r
      obtain ⟨rp, _, _⟩ := r1.pure
      cases rp
      obtain ⟨rp, _, _⟩ := r2.pure
      cases rp
      obtain ⟨b1', b2'⟩ := rngOk_ok hn.1
      obtain ⟨b3', b4'⟩ := rngOk_ok hn.2
      exact ⟨_, _, rfl, ⟨b1', b2', b3', b4'⟩, k (Itr m (n - m).toNat) H' [] [] sm (fun _ q => nomatch q) (fun _ q => nomatch q) (itr_rng m n)⟩
    · cases h2
  · cases h2
def qCompL (vs : List Nat) (f : En → Option (List DV)) (t : DV → En → Option En) (c : En → Option Bool) (el : En → Option DV) : En → Option DV := fun env => (f env).bind fun ds => if ds.length ≤ sizeLine then (compQ vs (lendE env) t c el ds).map mkC else none
theorem comp_impQ (vs : List Nat) {f : En → Option (List DV)} {t : DV → En → Option En} {c : En → Option Bool} {el : En → Option DV} (σ : Sg) (H : Hp) (Q : VK) (hq : rQ X.K (qCompL vs f t c el) σ H Q) : tLc (rIq X.K f) (rG X.K (outOf vs) t) (fun σ H Q => ∃ env F B b, StR X.K H σ env F B ∧ Disj F B ∧ c env = some b ∧ ∀ H', Same H H' → Q b H') (rQ X.K el) vs σ H Q := by
  obtain ⟨env, F, B, d, hS, dj, hf, k⟩ := hq
  obtain ⟨ds, h1, hf⟩ := Option.bind_eq_some_iff.mp hf
  split at hf
  · rename_i hsz
    obtain ⟨all, h2, rfl⟩ := Option.map_eq_some_iff.mp hf
    refine ⟨env, F, B, ds, hS, dj, h1, fun J H0 C Ci s0 hC hCi it => ?_⟩
    intro D hD
    obtain ⟨BL, SL, bl⟩ := hS.lendE
    have SL0 : StR X.K H0 σ (lendE env) [] BL := SL.same s0
    obtain ⟨Fw, Bw, Sw, fw, bw, _⟩ := hideL SL0 (fun _ q => nomatch q) vs
    have eFw : Fw = [] := nil_of_sub fw
    subst eFw
    have smD : Same H0 (upd H0 D (.lst [])) := same_upd hD
    refine ⟨fun i m H1 => m = ds.length - i ∧ i ≤ ds.length ∧ ∃ acc ys G zs, Same H0 H1 ∧ H1 D = some (.lst acc) ∧ RpAll X.K H1 acc ys G [] ∧ D ∉ G ∧ (∀ a ∈ G, H0 a = none) ∧ ys.length ≤ i ∧ compQ vs (lendE env) t c el (ds.drop i) = some zs ∧ ys ++ zs = all,
      ⟨_, rfl, Nat.zero_le _, [], [], [], all, smD, upd_same, .nil, (by simp), (fun _ q => nomatch q), Nat.le_refl _, h2, rfl⟩, ?_⟩
    rintro i m H1 ⟨rfl, hil, acc, ys, G, zs, s1, hDa, rG1, dG, nG, hyl, hcomp, hall⟩
    have hC1 : ∀ a ∈ C, H1 a = H0 a := fun a q => s1.at (hC a q)
    have hCi1 : ∀ a ∈ Ci, H1 a = H0 a := fun a q => s1.at <| by
      obtain ⟨o, e⟩ : ∃ o, H a = some o := (hCi a q).elim (fun z => let ⟨o, e, _⟩ := hS.own a z; ⟨o, e⟩) (hS.lent a)
      exact ⟨o, s0 a o e⟩
    obtain ⟨stop, step⟩ := it i H1 s1.tups hC1 hCi1
    by_cases hlt : i < ds.length
    · have hd : ds[i]? = some ds[i] := List.getElem?_eq_getElem hlt
      obtain ⟨go, yld⟩ := step _ hd
      refine .inr ⟨go, ?_⟩
      rw [List.drop_eq_getElem_cons hlt] at hcomp
      simp only [compQ] at hcomp
      split at hcomp
      · cases hcomp
      · rename_i e2 hte
        split at hcomp
        · rename_i hl2
          refine ⟨fun H2 => ∃ acc ys G zs, Same H0 H2 ∧ H2 D = some (.lst acc) ∧ RpAll X.K H2 acc ys G [] ∧ D ∉ G ∧ (∀ a ∈ G, H0 a = none) ∧ ys.length ≤ i + 1 ∧ compQ vs (lendE env) t c el (ds.drop (i + 1)) = some zs ∧ ys ++ zs = all,
            fun H2 ⟨acc, ys, G, zs, q⟩ => ⟨ds.length - (i + 1), by omega, rfl, hlt, acc, ys, G, zs, q⟩, fun x H2 hy => ?_⟩
          obtain ⟨sm, C', rx, cx⟩ := yld x H2 hy
          have s2 := s1.trans sm
          have S2 : StR X.K H2 (wipe σ vs) (wipeE (lendE env) vs) [] Bw := Sw.same s2
          refine ⟨wipeE (lendE env) vs, [], Bw, ds[i], [], C', e2, S2, (fun _ q => nomatch q), rx, (fun _ q => nomatch q), (fun _ q => nomatch q), (fun _ q => nomatch q), (fun _ q => nomatch q), hte, fun σ3 H3 F3 B3 k3 S3 n3 b3 x3 => ?_⟩
          have s23 : Same H2 H3 := fun b o eb => k3 b o eb (by simp)
          have hσl : σ3.length = σ.length := by
            have a1 := S3.len
            have a2 := SL0.len
            rw [a1, hl2, a2]
          refine ⟨wipe_eq hσl x3, ?_⟩
          have s3 := s2.trans s23
          have hD3 : H3 D = some (.lst acc) := s23 D _ (sm D _ hDa)
          have dj3 : Disj F3 B3 := fun a q z => by
            rcases n3 a q with q | q | q
            · cases q
            · cases q
            · rcases b3 a z with z | z
              · obtain ⟨o, e⟩ := S2.lent a z
                rw [q] at e; cases e
              · obtain ⟨o, e⟩ := rx.lent a z
                rw [q] at e; cases e
          split at hcomp
          · rename_i h4
            split at hcomp
            · rename_i y h5
              split at hcomp
              · rename_i hyo
                obtain ⟨zs', hrec, rfl⟩ := Option.map_eq_some_iff.mp hcomp
                refine ⟨e2, F3, B3, true, S3, dj3, h4, fun H4 s34 => ?_⟩
                refine iteT ?_
                refine ⟨e2, F3, B3, y, S3.same s34, dj3, h5, fun w H5 Gy Cy s45 r5 g5 c5 => ?_⟩
                have hCy := r5.of_owned hyo
                subst hCy
                have s35 := s34.trans s45
                have s25 := (sm.trans s23).trans s35
                have s5 := s1.trans s25
                have hD5 : H5 D = some (.lst acc) := s35 D _ hD3
                have rG5 : RpAll X.K H5 acc ys G [] := rG1.same s25
                have dGy : D ∉ Gy := fun z => by
                  have := s34.free (g5 D z)
                  rw [hD3] at this; cases this
                have djGy : Disj G Gy := fun a q z => by
                  obtain ⟨o, e, _⟩ := rG1.own a q
                  have := (sm.trans s23).trans s34 a o e
                  rw [g5 a z] at this; cases this
                have one : RpAll X.K H5 [w] [y] Gy [] := by
                  have := RpAll.cons (B := []) (C := []) (G := []) r5 .nil fun _ _ z => nomatch z
                  rw [List.append_nil] at this
                  exact this
                have allr : RpAll X.K H5 (acc ++ [w]) (ys ++ [y]) (G ++ Gy) [] := rG5.append one djGy
                have hal : acc.length < sizeLine := by rw [rG5.length]; omega
                refine ⟨acc, hD5, hal, ?_⟩
                have kD := keep_lst (ws := acc ++ [w]) hD5
                have nDG : D ∉ G ++ Gy := fun z => (List.mem_append.mp z).elim dG dGy
                refine ⟨acc ++ [w], ys ++ [y], G ++ Gy, zs', fun b o eb => ?_, upd_same, allr.ext kD (fun a q => upd_ne fun z => nDG (z ▸ q)) (fun _ q => nomatch q), nDG, fun a q => ?_, by rw [List.length_append]; simp; omega, hrec, by rw [← hall]; simp⟩
                · rw [upd_ne (fun z => by subst z; rw [hD] at eb; cases eb)]
                  exact s5 b o eb
                · rcases List.mem_append.mp q with q | q
                  · exact nG a q
                  · exact (s3.trans s34).free (g5 a q)
              · cases hcomp
            · cases hcomp
          · rename_i h4
            refine ⟨e2, F3, B3, false, S3, dj3, h4, fun H4 s34 => ?_⟩
            refine iteF ?_
            have s24 := (sm.trans s23).trans s34
            exact ⟨acc, ys, G, zs, s1.trans s24, s34 D _ hD3, rG1.same s24, dG, nG, by omega, hcomp, hall⟩
          · cases hcomp
        · cases hcomp
    · have e : i = ds.length := by omega
      subst e
      rw [List.drop_length] at hcomp
      cases hcomp
      rw [List.append_nil] at hall
      subst hall
      obtain ⟨G', rG', g'⟩ := mkC_ok hDa rG1 dG
      refine .inl ⟨stop (Nat.le_refl _), k _ H1 G' [] (s0.trans s1) rG' (fun a q => ?_) fun _ q => nomatch q⟩
      rcases g' a q with rfl | q
      · exact s0.free hD
      · exact s0.free (nG a q)
  · cases hf
theorem sq_comp (own : List (Str × Nat)) {f : En → Option (List DV)} {t : DV → En → Option En} {c : En → Option Bool} {el : En → Option DV} (hN : X.N.Nodup) (hi : SIq X tg iter f) (ok : blkC X.N X.env.scope scope own = true)
    (hg : ∀ (s : Shared) (H : Hp) (C : Addr) (cl : List (Str × Addr)) (fp : List Addr), STg (X.blk s H scope (compEnvC scope cl C X.env) fp) (outOf (own.map (·.2))) tg t)
    (ht : ∀ (s : Shared) (H : Hp) (C : Addr) (cl : List (Str × Addr)) (fp : List Addr), SQTs (X.blk s H scope (compEnvC scope cl C X.env) fp) ifs c)
    (he : ∀ (s : Shared) (H : Hp) (C : Addr) (cl : List (Str × Addr)) (fp : List Addr), SQ (X.blk s H scope (compEnvC scope cl C X.env) fp) elt el)
    (hc : X.calm = true := by rfl) (hs : ∀ x, foldedSetIterable iter X.env x = pure x := by intro _; rfl) :
    SQ X (.ListComp elt [⟨tg, iter, ifs, 0⟩] scope pos) (qCompL (own.map (·.2)) f t c el) := by
  generalize hvs : own.map (·.2) = vs at hg ⊢
  have base := pe_lc (pos := pos) (te := rQ X.K el) (tt := fun σ H Q => ∃ env F B b, StR X.K H σ env F B ∧ Disj F B ∧ c env = some b ∧ ∀ H', Same H H' → Q b H') (g := rG X.K (outOf vs) t) hc hN hi.pi (blkOk_by ok) (fun s H C cl fp => (hg s H C cl fp).pg) (fun s H C cl fp => (ht s H C cl fp).pt) (fun s H C cl fp => (he s H C cl fp).pe) hs
  rw [hvs] at base
  exact ⟨pe_imp base fun σ H Q => comp_impQ vs σ H Q⟩
/-- quiet, to a value of one's own -/
theorem rE_ofQ {K : PySem.W.Frag} {q : En → Option DV} {σ : Sg} {H : Hp} {Q : VK} (h : rE K (ofQ q) σ H Q) : rQ K q σ H Q := by
  obtain ⟨env, F, B, d, env', hS, dj, hf, k⟩ := h
  unfold ofQ at hf
  split at hf
  · rename_i d' hq
    by_cases ho : d'.owned = true
    · rw [if_pos ho] at hf
      cases hf
      refine ⟨env, F, B, d, hS, dj, hq, fun v H' G C sm r gn cs => ?_⟩
      have hC : C = [] := r.of_owned ho
      subst hC
      refine k v H' F B G sm.keep (hS.same sm) Nw.self Sb.self r (fun a q => .inr (gn a q)) fun a q z => ?_
      obtain ⟨o, e, _⟩ := hS.own a z
      rw [gn a q] at e; cases e
    · rw [if_neg ho] at hf; cases hf
  · cases hf
theorem ss_setLcQ (i : Nat) {y : Str} {py spos : Pos} {fx : Nat → Bool} (own : List (Str × Nat)) {f : En → Option (List DV)} {t : DV → En → Option En} {c : En → Option Bool} {el : En → Option DV} (hN : X.N.Nodup) (hi : SIq X tg iter f) (ok : blkC X.N X.env.scope scope own = true)
    (hg : ∀ (s : Shared) (H : Hp) (C : Addr) (cl : List (Str × Addr)) (fp : List Addr), STg (X.blk s H scope (compEnvC scope cl C X.env) fp) (outOf (own.map (·.2))) tg t)
    (ht : ∀ (s : Shared) (H : Hp) (C : Addr) (cl : List (Str × Addr)) (fp : List Addr), SQTs (X.blk s H scope (compEnvC scope cl C X.env) fp) ifs c)
    (he : ∀ (s : Shared) (H : Hp) (C : Addr) (cl : List (Str × Addr)) (fp : List Addr), SQ (X.blk s H scope (compEnvC scope cl C X.env) fp) elt el)
    (hsw : swapsWith (.ListComp elt [⟨tg, iter, ifs, 0⟩] scope pos) (some (.Name y py)) spos.line X.env = pure true := by rfl) (hy : X.N[i]? = some y := by rfl) (hyl : X.env.scope.names.lookup y = some .local := by rfl)
    (hc : X.calm = true := by rfl) (hs : ∀ x, foldedSetIterable iter X.env x = pure x := by intro _; rfl) (hfx : fx i = false := by rfl) :
    SS X fx (.Assign [.Name y py] (.ListComp elt [⟨tg, iter, ifs, 0⟩] scope pos) spos) (sAsg (ofQ (qCompL (own.map (·.2)) f t c el)) (gSet i)) := by
  generalize hvs : own.map (·.2) = vs at hg ⊢
  have base := ps_setLc (i := i) (py := py) (spos := spos) (pos := pos) (te := rQ X.K el) (tt := fun σ H Q => ∃ env F B b, StR X.K H σ env F B ∧ Disj F B ∧ c env = some b ∧ ∀ H', Same H H' → Q b H') (g := rG X.K (outOf vs) t) hc hN hy hyl hsw hi.pi (blkOk_by ok) (fun s H C cl fp => (hg s H C cl fp).pg) (fun s H C cl fp => (ht s H C cl fp).pt) (fun s H C cl fp => (he s H C cl fp).pe) hs
  rw [hvs] at base
  exact ⟨ps_imp base fun D σ H h => comp_impQ vs σ H _ (rE_ofQ (set_go hfx h))⟩
end
end Sm

set_option Elab.async false
set_option linter.all false
set_option maxRecDepth 100000
/-! S10: locks; defs and their calls. -/
namespace Sm
open PySem PySem.Spec PyProof.Rows L2
/-- behind a lock: own values as they are; a lent one only where it was there before -/
def unl1 (b : Bool) (o0 o1 : Option DV) : Option DV := match o1 with
  | none => none
  | some d1 => if d1.owned then some d1 else match b, o0 with
    | true, some d0 => if d0.light then some d0 else none
    | _, _ => none
def unl (fx : Nat → Bool) : Nat → En → En → En
  | n, o0 :: env, o1 :: e => unl1 (fx n) o0 o1 :: unl fx (n + 1) env e
  | _, _, _ => []
section
variable {K : PySem.W.Frag} {H H' : Hp}
theorem unl_ok {fx : Nat → Bool} : ∀ {env e : En} {σ σ' : Sg} {F B F' B' : Fp} {n : Nat}, StR K H σ env F B → StR K H' σ' e F' B' → env.length = e.length → (∀ k, fx (n + k) = true → σ'[k]? = σ[k]?) → TupKeep H H' → (∀ a ∈ B, H' a = H a) →
    ∃ F2 B2, StR K H' σ' (unl fx n env e) F2 B2 ∧ (∀ a ∈ F2, a ∈ F') ∧ ∀ a ∈ B2, a ∈ B
  | [], [], _, _, _, _, _, _, _, hS, hE, _, _, _, _ => by
    cases hE
    exact ⟨[], [], .nil, fun _ q => q, fun _ q => nomatch q⟩
  | [], _ :: _, _, _, _, _, _, _, _, _, _, hl, _, _, _ => by simp at hl
  | _ :: _, [], _, _, _, _, _, _, _, _, _, hl, _, _, _ => by simp at hl
  | o0 :: env, o1 :: e, σ, σ', F, B, F', B', n, hS, hE, hl, hx, tk, hB => by
    have hl' : env.length = e.length := by simpa using hl
    have step : ∀ {σ0 σ1 : Sg} {F B F' B' : Fp} {v0 v1 : Option V}, σ = v0 :: σ0 → σ' = v1 :: σ1 → StR K H σ0 env F B → StR K H' σ1 e F' B' → (∀ a ∈ B, H' a = H a) →
        ∃ F2 B2, StR K H' σ1 (unl fx (n + 1) env e) F2 B2 ∧ (∀ a ∈ F2, a ∈ F') ∧ ∀ a ∈ B2, a ∈ B := fun {σ0 σ1 F B F' B' v0 v1} e0 e1 a b c => by
      refine unl_ok a b hl' (fun k hk => ?_) tk c
      have := hx (k + 1) (by rw [show n + (k + 1) = n + 1 + k by omega]; exact hk)
      rw [e0, e1] at this
      simpa using this
    show ∃ F2 B2, StR K H' σ' (unl1 (fx n) o0 o1 :: unl fx (n + 1) env e) F2 B2 ∧ (∀ a ∈ F2, a ∈ F') ∧ ∀ a ∈ B2, a ∈ B
    have hS0 : ∃ v0 σ0 F0 B0, σ = v0 :: σ0 ∧ StR K H σ0 env F0 B0 ∧ (∀ a ∈ B0, a ∈ B) ∧ ∀ d0, o0 = some d0 → d0.light = true → ∃ w C, v0 = some w ∧ Rp K H w d0 [] C ∧ ∀ a ∈ C, a ∈ B := by
      cases hS with
      | non h => exact ⟨_, _, _, _, rfl, h, fun _ q => q, fun d0 e => by cases e⟩
      | som r h dj =>
        refine ⟨_, _, _, _, rfl, h, fun a q => List.mem_append_right _ q, fun d0 e hli => ?_⟩
        cases e
        have := r.of_light hli
        subst this
        exact ⟨_, _, rfl, r, fun a q => List.mem_append_left _ q⟩
    obtain ⟨v0, σ0, F0, B0, e0, S0, b0, l0⟩ := hS0
    cases hE with
    | non h =>
      obtain ⟨F2, B2, S2, u1, u2⟩ := step e0 rfl S0 h fun a q => hB a (b0 a q)
      exact ⟨F2, B2, .non S2, u1, fun a q => b0 a (u2 a q)⟩
    | @som v1 d1 σ1 _ F1 G1 B1 C1 r h dj =>
      obtain ⟨F2, B2, S2, u1, u2⟩ := step e0 rfl S0 h fun a q => hB a (b0 a q)
      by_cases ho : d1.owned = true
      · have hb := r.of_owned ho
        subst hb
        rw [show unl1 (fx n) o0 (some d1) = some d1 by simp [unl1, ho]]
        refine ⟨F1 ++ F2, [] ++ B2, .som r S2 fun a q z => dj a q (u1 a z), fun a q => ?_, fun a q => b0 a (u2 a (by simpa using q))⟩
        exact (List.mem_append.mp q).elim (List.mem_append_left _) fun z => List.mem_append_right _ (u1 a z)
      · have skip : unl1 (fx n) o0 (some d1) = none → ∃ F2 B2, StR K H' (some v1 :: σ1) (unl1 (fx n) o0 (some d1) :: unl fx (n + 1) env e) F2 B2 ∧ (∀ a ∈ F2, a ∈ F1 ++ G1) ∧ ∀ a ∈ B2, a ∈ B := fun e => by
          rw [e]
          exact ⟨F2, B2, .non S2, fun a q => List.mem_append_right _ (u1 a q), fun a q => b0 a (u2 a q)⟩
        by_cases hf : fx n = true
        · cases o0 with
          | none => exact skip (by simp [unl1, ho, hf])
          | some d0 =>
            by_cases hli : d0.light = true
            · obtain ⟨w, C, ew, rw0, c0⟩ := l0 d0 rfl hli
              have e1 : some v1 = v0 := by
                have := hx 0 (by simpa using hf)
                rw [e0] at this
                simpa using this
              rw [ew] at e1
              cases e1
              have rr : Rp K H' v1 d0 [] C := rw0.ext tk (fun _ q => nomatch q) fun a q => hB a (c0 a q)
              rw [show unl1 (fx n) (some d0) (some d1) = some d0 by simp [unl1, ho, hf, hli]]
              refine ⟨[] ++ F2, C ++ B2, .som rr S2 (fun _ q => nomatch q), fun a q => List.mem_append_right _ (u1 a (by simpa using q)), fun a q => ?_⟩
              exact (List.mem_append.mp q).elim (c0 a) fun z => b0 a (u2 a z)
            · exact skip (by simp [unl1, ho, hf, hli])
        · exact skip (by simp [unl1, ho, hf])
end
def unlock (fx : Nat → Bool) (j : Nat) (d : DV) (env e : En) : Option En := if e.length = env.length then some ((unl fx 0 env e).set j (some d)) else none
/-- what a locked run gives, for the names as they were -/
theorem unlock_ok {K : PySem.W.Frag} {fx : Nat → Bool} {σ σ' : Sg} {H H' : Hp} {env e e2 : En} {F B F' B' F2 G C : Fp} {j : Nat} {v : V} {d : DV} (hS : StR K H σ env F B) (dj : Disj F B) (hv : σ[j]? = some (some v)) (r : Rp K H v d G C) (s1 : ∀ a ∈ G, a ∈ F) (s2 : ∀ a ∈ C, a ∈ B)
    (hF2 : ∀ a ∈ F2, a ∈ F) (dg : Disj G F2) (k : Keep F2 H H') (hE : StR K H' σ' e F' B') (n : Nw F2 H F') (hx : ∀ i, fx i = true → σ'[i]? = σ[i]?) (hj : σ'[j]? = σ[j]?) (hu : unlock fx j d env e = some e2) (hjl : j < env.length) :
    ∃ F3 B3, StR K H' σ' e2 F3 B3 ∧ Nw F H F3 ∧ Sb B B3 ∧ ∀ a ∈ F3, a ∈ G ∨ a ∈ F' := by
  unfold unlock at hu
  split at hu
  · rename_i hl
    cases hu
    have own2 : ∀ x ∈ F2, ∃ o, H x = some o ∧ Mub o := fun x q => hS.own x (hF2 x q)
    have tk := k.tups own2
    have hB : ∀ a ∈ B, H' a = H a := fun a q => k.at (hS.lent a q) fun z => dj a (hF2 a z) q
    obtain ⟨F4, B4, S4, u1, u2⟩ := unl_ok (n := 0) hS hE hl.symm (fun i hi => hx i (by simpa using hi)) tk hB
    have r' : Rp K H' v d G C := r.keep k own2 (fun a q z => dg a z q) fun a q z => dj a (hF2 a q) (s2 a z)
    have hul : j < (unl fx 0 env e).length := by
      have := S4.len
      have := hE.len
      omega
    obtain ⟨F5, B5, S5, w1, w2⟩ := S4.set hul r' fun a q z => by
      rcases n a (u1 a z) with z | z
      · exact dg a q z
      · obtain ⟨o, e, _⟩ := r.own a q
        rw [z] at e; cases e
    rw [set_self (hj.trans hv)] at S5
    refine ⟨F5, B5, S5, fun a q => ?_, fun a q => (w2 a q).elim (s2 a) (u2 a), fun a q => (w1 a q).imp id (u1 a)⟩
    rcases w1 a q with q | q
    · exact .inl (s1 a q)
    · exact (n a (u1 a q)).imp (hF2 a) id
  · cases hu
def outMap (u : En → Option En) : Out → Option Out
  | .nx e => (u e).map .nx
  | .bk e => (u e).map .bk
  | .ct e => (u e).map .ct
  | .rt d e => (u e).map (.rt d)
/-- a name locked while the statement runs -/
def sLock (fx : Nat → Bool) (j : Nat) (b : Bk) : Bk := fun env => match env.g j with
  | none => none
  | some (.p x) => b env
  | some d => (b (env.set j (some d.lend))).bind (outMap (unlock fx j d env))
def fxl (fx : Nat → Bool) (j : Nat) : Nat → Bool := fun i => i == j || fx i
section
variable {X : Cx} {fx : Nat → Bool} {st : Stmt} {e : Expr} {pos : Pos}
theorem lock_start {K : PySem.W.Frag} {σ : Sg} {H : Hp} {env : En} {F B : Fp} {j : Nat} {d : DV} (hS : StR K H σ env F B) (dj : Disj F B) (h : env.g j = some d) : ∃ v G C F2 B2, σ[j]? = some (some v) ∧ Rp K H v d G C ∧ (∀ a ∈ G, a ∈ F) ∧ (∀ a ∈ C, a ∈ B) ∧ StR K H σ (env.set j (some d.lend)) F2 B2 ∧
    (∀ a ∈ F2, a ∈ F) ∧ Disj G F2 ∧ Disj F2 B2 ∧ j < env.length := by
  obtain ⟨v, G, C, F1, B1, e1, r, s1, s2, S1, u1, u2, dg⟩ := hS.take (En.g_some h)
  obtain ⟨C', rl, cl⟩ := r.lend
  have hj : j < env.length := (List.getElem?_eq_some_iff.mp (En.g_some h)).1
  obtain ⟨F2, B2, S2, w1, w2⟩ := S1.set (i := j) (by simpa using hj) rl fun _ q => nomatch q
  rw [List.set_set, set_self e1] at S2
  have f2 : ∀ a ∈ F2, a ∈ F1 := fun a q => (w1 a q).elim (fun z => nomatch z) id
  refine ⟨v, G, C, F2, B2, e1, r, s1, s2, S2, fun a q => u1 a (f2 a q), fun a q z => dg a q (f2 a z), fun a q z => ?_, hj⟩
  rcases w2 a z with z | z
  · rcases cl a z with z | z
    · exact dg a z (f2 a q)
    · exact dj a (u1 a (f2 a q)) (s2 a z)
  · exact dj a (u1 a (f2 a q)) (u2 a z)
theorem ss_lock (j : Nat) {b : Bk} (h : SS X (fxl fx j) st b) : SS X fx st (sLock fx j b) := by
  refine ⟨ps_imp h.ps ?_⟩
  rintro D σ H ⟨env, F, B, o, hS, dj, hb, k⟩
  have weak : ∀ {σ σ' : Sg}, Fx (fxl fx j) σ σ' → Fx fx σ σ' := fun x i hi => x i (by simp [fxl, hi])
  unfold sLock at hb
  split at hb
  · cases hb
  · refine ⟨env, F, B, o, hS, dj, hb, ?_⟩
    cases o with
    | nx e => exact fun σ' H' F' B' k1 S1 n1 b1 x1 => k σ' H' F' B' k1 S1 n1 b1 (weak x1)
    | bk e => exact fun σ' H' F' B' k1 S1 n1 b1 x1 => k σ' H' F' B' k1 S1 n1 b1 (weak x1)
    | ct e => exact fun σ' H' F' B' k1 S1 n1 b1 x1 => k σ' H' F' B' k1 S1 n1 b1 (weak x1)
    | rt d e => exact fun v σ' H' F' B' G k1 S1 n1 b1 x1 r g dg => k v σ' H' F' B' G k1 S1 n1 b1 (weak x1) r g dg
  · rename_i d _ hd
    obtain ⟨o1, h1, h2⟩ := Option.bind_eq_some_iff.mp hb
    obtain ⟨v, G, C, F2, B2, ev, r, s1, s2, S2, f2, dg, dj2, hj⟩ := lock_start hS dj (show env.g j = some d by assumption)
    have hjx : ∀ {σ' : Sg}, Fx (fxl fx j) σ σ' → σ'[j]? = σ[j]? := fun x => x j (by simp [fxl])
    have sub : ∀ {H' : Hp}, Keep F2 H H' → Keep F H H' := fun k c o ec nc => k c o ec fun z => nc (f2 c z)
    refine ⟨_, F2, B2, o1, S2, dj2, h1, ?_⟩
    cases o1 with
    | nx e =>
      obtain ⟨e2, hu, rfl⟩ := Option.map_eq_some_iff.mp h2
      intro σ' H' F' B' k1 S1 n1 b1 x1
      obtain ⟨F3, B3, S3, n3, b3, f3⟩ := unlock_ok hS dj ev r s1 s2 f2 dg k1 S1 n1 (fun i hi => weak x1 i hi) (hjx x1) hu hj
      exact k σ' H' F3 B3 (sub k1) S3 n3 b3 (weak x1)
    | bk e =>
      obtain ⟨e2, hu, rfl⟩ := Option.map_eq_some_iff.mp h2
      intro σ' H' F' B' k1 S1 n1 b1 x1
      obtain ⟨F3, B3, S3, n3, b3, f3⟩ := unlock_ok hS dj ev r s1 s2 f2 dg k1 S1 n1 (fun i hi => weak x1 i hi) (hjx x1) hu hj
      exact k σ' H' F3 B3 (sub k1) S3 n3 b3 (weak x1)
    | ct e =>
      obtain ⟨e2, hu, rfl⟩ := Option.map_eq_some_iff.mp h2
      intro σ' H' F' B' k1 S1 n1 b1 x1
      obtain ⟨F3, B3, S3, n3, b3, f3⟩ := unlock_ok hS dj ev r s1 s2 f2 dg k1 S1 n1 (fun i hi => weak x1 i hi) (hjx x1) hu hj
      exact k σ' H' F3 B3 (sub k1) S3 n3 b3 (weak x1)
    | rt d' e =>
      obtain ⟨e2, hu, rfl⟩ := Option.map_eq_some_iff.mp h2
      intro w σ' H' F' B' G' k1 S1 n1 b1 x1 r1 g1 dg1
      obtain ⟨F3, B3, S3, n3, b3, f3⟩ := unlock_ok hS dj ev r s1 s2 f2 dg k1 S1 n1 (fun i hi => weak x1 i hi) (hjx x1) hu hj
      refine k w σ' H' F3 B3 G' (sub k1) S3 n3 b3 (weak x1) r1 (fun a q => (g1 a q).imp (f2 a) id) fun a q z => ?_
      rcases f3 a z with z | z
      · rcases g1 a q with q | q
        · exact dg a z q
        · obtain ⟨o, e, _⟩ := r.own a z
          rw [q] at e; cases e
      · exact dg1 a q z
/-- .. while an expression runs -/
def eLock (j : Nat) (f : En → Option (DV × En)) : En → Option (DV × En) := fun env => match env.g j with
  | none => none
  | some (.p x) => f env
  | some d => (f (env.set j (some d.lend))).bind fun x => (unlock (fun _ => true) j d env x.2).map fun e => (x.1, e)
theorem se_lock (j : Nat) {f : En → Option (DV × En)} (h : SE X e f) : SE X e (eLock j f) := by
  refine ⟨pe_imp h.pe ?_⟩
  rintro σ H Q ⟨env, F, B, d0, envE, hS, dj, hb, k⟩
  unfold eLock at hb
  split at hb
  · cases hb
  · exact ⟨env, F, B, d0, envE, hS, dj, hb, k⟩
  · rename_i d _ hd
    obtain ⟨⟨d1, e1⟩, h1, h2⟩ := Option.bind_eq_some_iff.mp hb
    obtain ⟨v, G, C, F2, B2, ev, r, s1, s2, S2, f2, dg, dj2, hj⟩ := lock_start hS dj (show env.g j = some d by assumption)
    obtain ⟨e2, hu, h3⟩ := Option.map_eq_some_iff.mp h2
    cases h3
    refine ⟨_, F2, B2, d1, e1, S2, dj2, h1, fun w H' F' B' G' k1 S1 n1 b1 r1 g1 dg1 => ?_⟩
    obtain ⟨F3, B3, S3, n3, b3, f3⟩ := unlock_ok hS dj ev r s1 s2 f2 dg k1 S1 n1 (fun i _ => rfl) rfl hu hj
    refine k w H' F3 B3 G' (fun c o ec nc => k1 c o ec fun z => nc (f2 c z)) S3 n3 b3 r1 (fun a q => (g1 a q).imp (f2 a) id) fun a q z => ?_
    rcases f3 a z with z | z
    · rcases g1 a q with q | q
      · exact dg a z q
      · obtain ⟨o, e, _⟩ := r.own a z
        rw [q] at e; cases e
    · exact dg1 a q z
end
/-! ### defs -/
def modeOk : List Bool → List DV → Bool
  | [], [] => true
  | m :: ms, d :: ds => (m || d.light) && modeOk ms ds
  | _, _ => false
def fin : List Bool → List DV → En → Option (List DV)
  | [], [], _ => some []
  | m :: ms, d :: ds, o :: e => if m then match o with
      | some d' => (fin ms ds e).map fun r => d' :: r
      | none => none
    else (fin ms ds e).map fun r => d :: r
  | _, _, _ => none
theorem fin_cons (m : Bool) (ms : List Bool) (d : DV) (ds : List DV) (o : Option DV) (e : En) : fin (m :: ms) (d :: ds) (o :: e) = if m then (match (generalizing := false) o with | some d' => (fin ms ds e).map fun r => d' :: r | none => none) else (fin ms ds e).map fun r => d :: r := rfl
def startE (ds : List DV) (N : Nat) : En := ds.map some ++ List.replicate (N - ds.length) none
/-- what a def does, by its body -/
def runF (ms : List Bool) (N : Nat) (b : Bk) (ds : List DV) : Option (DV × List DV) :=
  if modeOk ms ds then match b (startE ds N) with
    | some (.nx e) => (fin ms ds e).map fun r => (.p .non, r)
    | some (.rt d e) => (fin ms ds e).map fun r => (d, r)
    | _ => none
  else none
def fxm (ms : List Bool) : Nat → Bool := fun i => ms.getD i false
def spF (K : PySem.W.Frag) (m : List DV → Option (DV × List DV)) : Sp := fun vs H Q _ => ∃ ds F B d ds', RpAll K H vs ds F B ∧ Disj F B ∧ m ds = some (d, ds') ∧ ds.length = vs.length ∧
  ∀ v H' F' B' G, Keep F H H' → RpAll K H' vs ds' F' B' → Nw F H F' → Sb B B' → Rp K H' v d G [] → Nw F H G → Disj G F' → Q v H'
section
variable {K : PySem.W.Frag} {H H' : Hp}
theorem modeOk_length : ∀ {ms : List Bool} {ds : List DV}, modeOk ms ds = true → ds.length = ms.length
  | [], [], _ => rfl
  | [], _ :: _, h => by simp [modeOk] at h
  | _ :: _, [], h => by simp [modeOk] at h
  | m :: ms, d :: ds, h => by
    simp [modeOk] at h
    simp [modeOk_length h.2]
theorem start_ok {N : Nat} : ∀ {ds : List DV} {vs : List V} {F B : Fp}, RpAll K H vs ds F B → StR K H (vs.map some ++ List.replicate N none) (ds.map some ++ List.replicate N none) F B
  | [], _, _, _, h => by
    cases h
    induction N with
    | zero => exact .nil
    | succ n ih => exact .non ih
  | d :: ds, _, _, _, h => by
    cases h with
    | cons a b c => exact .som a (start_ok b) c
theorem fin_ok : ∀ {ms : List Bool} {ds ds' : List DV} {vs : List V} {e : En} {σ : Sg} {F B F' B' : Fp}, RpAll K H vs ds F B → modeOk ms ds = true → StR K H' σ e F' B' → fin ms ds e = some ds' → (∀ i v, ms.getD i false = true → vs[i]? = some v → σ[i]? = some (some v)) → TupKeep H H' → (∀ a ∈ B, H' a = H a) →
    ∃ F2 B2, RpAll K H' vs ds' F2 B2 ∧ (∀ a ∈ F2, a ∈ F') ∧ ∀ a ∈ B2, a ∈ B ∨ a ∈ B'
  | [], [], ds', vs, e, σ, F, B, F', B', hR, hm, hS, hf, hx, tk, hB => by
    cases hf
    cases hR
    exact ⟨[], [], .nil, (fun _ q => nomatch q), (fun _ q => nomatch q)⟩
  | [], _ :: _, _, _, _, _, _, _, _, _, _, hm, _, _, _, _, _ => by simp [modeOk] at hm
  | _ :: _, [], _, _, _, _, _, _, _, _, _, hm, _, _, _, _, _ => by simp [modeOk] at hm
  | m :: ms, d :: ds, ds', vs, [], σ, F, B, F', B', hR, hm, hS, hf, hx, tk, hB => by simp [fin] at hf
  | m :: ms, d :: ds, ds', vs, o :: e, σ, F, B, F', B', hR, hm, hS, hf, hx, tk, hB => by
    rw [modeOk, Bool.and_eq_true] at hm
    cases hR with
    | @cons v vs _ _ F1 F2 B1 B2 r1 rr dd =>
      have hS0 : ∃ o' σ0 F0 B0, σ = o' :: σ0 ∧ StR K H' σ0 e F0 B0 ∧ (∀ a ∈ F0, a ∈ F') ∧ (∀ a ∈ B0, a ∈ B') ∧ ∀ d', o = some d' → ∃ w G C, o' = some w ∧ Rp K H' w d' G C ∧ (∀ a ∈ G, a ∈ F') ∧ (∀ a ∈ C, a ∈ B') ∧ Disj G F0 := by
        cases hS with
        | non h => exact ⟨_, _, _, _, rfl, h, fun _ q => q, fun _ q => q, fun _ z => by cases z⟩
        | som r h dj =>
          refine ⟨_, _, _, _, rfl, h, fun a q => List.mem_append_right _ q, fun a q => List.mem_append_right _ q, fun d' z => ?_⟩
          cases z
          exact ⟨_, _, _, rfl, r, fun a q => List.mem_append_left _ q, fun a q => List.mem_append_left _ q, dj⟩
      obtain ⟨o', σ0, F0, B0, rfl, S0, f0, b0, w0⟩ := hS0
      have rcs := fun ds0 (h : fin ms ds e = some ds0) => fin_ok rr hm.2 S0 h (fun i v h1 h2 => by simpa using hx (i + 1) v (by simpa using h1) (by simpa using h2)) tk fun a q => hB a (List.mem_append_right _ q)
      rw [fin_cons] at hf
      split at hf
      · rename_i hmt
        split at hf
        · rename_i d'
          obtain ⟨r, h1, rfl⟩ := Option.map_eq_some_iff.mp hf
          obtain ⟨F3, B3, R3, u1, u2⟩ := rcs r h1
          obtain ⟨w, G, C, ew, rw0, g1, c1, dg⟩ := w0 d' rfl
          have := hx 0 v (by simpa using hmt) rfl
          simp at this
          rw [ew] at this
          cases this
          refine ⟨G ++ F3, C ++ B3, .cons rw0 R3 fun a q z => dg a q (u1 a z), fun a q => ?_, fun a q => ?_⟩
          · exact (List.mem_append.mp q).elim (g1 a) fun z => f0 a (u1 a z)
          · rcases List.mem_append.mp q with q | q
            · exact .inr (c1 a q)
            · exact (u2 a q).imp (List.mem_append_right _) (b0 a)
        · cases hf
      · rename_i hmt
        obtain ⟨r, h1, rfl⟩ := Option.map_eq_some_iff.mp hf
        obtain ⟨F3, B3, R3, u1, u2⟩ := rcs r h1
        have hli : d.light = true := by
          have := hm.1
          simp [hmt] at this
          exact this
        have ef := r1.of_light hli
        subst ef
        have r1' : Rp K H' v d [] B1 := r1.ext tk (fun _ q => nomatch q) fun a q => hB a (List.mem_append_left _ q)
        refine ⟨[] ++ F3, B1 ++ B3, .cons r1' R3 (fun _ q => nomatch q), fun a q => f0 a (u1 a (by simpa using q)), fun a q => ?_⟩
        rcases List.mem_append.mp q with q | q
        · exact .inl (List.mem_append_left _ q)
        · exact (u2 a q).imp (List.mem_append_right _) (b0 a)
end
section
variable {P : Program} {w : World} {K : PySem.W.Frag} {mg : Str → Option Value} {base : Heap}
theorem def_ok {x qual : Str} {st : Stmt} {f : Addr} {fd : FuncData} {N ps : List Str} {k : Nat} {ms : List Bool} {b : Bk} (Fn : FunD K x qual (defArgs st) (defBody st) (defScope st) [] [] f fd) (S : FnScope N ps (defScope st)) (hps : ps.length = ms.length)
    (hb : ∀ (cdv : Value) (A : Around) (outer : List PySem.Env) (s : Shared) (H : Hp) (E : XK), Room k (A.deeper (envOfC qual (defScope st) s.heap.objs.size f cdv)) →
      SSs (cxOf CX0 P w K mg base N qual (defScope st) f cdv A outer s H E).nox (fxm ms) (defBody st) b) : FnOk P w K mg base CX0 (k + 1) f fd ps (spF K (runF ms N.length b)) := by
  have hNp : ps.length ≤ N.length := by have := congrArg List.length S.pre; rw [List.length_take] at this; omega
  refine Fn.ok S (fun vs H Q E h => ?_) (fun cdv A outer s H vs Q E hr h => ⟨_, (hb cdv A outer s H E hr).ps.nox, ?_⟩)
  · obtain ⟨ds, F, B, d, ds', hR, dj, hm, hl, _⟩ := h
    unfold runF at hm
    split at hm
    · rename_i hmo
      rw [hps, ← modeOk_length hmo, hl]
    · cases hm
  · obtain ⟨ds, F, B, d, ds', hR, dj, hm, hl, kk⟩ := h
    unfold runF at hm
    split at hm
    · rename_i hmo
      have hlen : ds.length = ps.length := by rw [hps, modeOk_length hmo]
      have S0 : StR K H (L2.start N vs) (startE ds N.length) F B := by
        unfold L2.start startE
        rw [hR.length]
        exact start_ok hR
      have fx0 : ∀ {σ' : Sg}, Fx (fxm ms) (L2.start N vs) σ' → ∀ i v, ms.getD i false = true → vs[i]? = some v → σ'[i]? = some (some v) := fun x i v h1 h2 => by
        rw [x i h1]
        unfold L2.start
        rw [List.getElem?_append_left (by rw [List.length_map]; exact (List.getElem?_eq_some_iff.mp h2).1), List.getElem?_map, h2]
        rfl
      have done : ∀ {σ' : Sg} {H' : Hp} {e : En} {F' B' G : Fp} {v : V}, fin ms ds e = some ds' → Keep F H H' → StR K H' σ' e F' B' → Nw F H F' → Sb B B' → Fx (fxm ms) (L2.start N vs) σ' → Rp K H' v d G [] → Nw F H G → Disj G F' → Q v H' :=
        fun hf k1 S1 n1 b1 x1 r g dg => by
          have own : ∀ x ∈ F, ∃ o, H x = some o ∧ Mub o := hR.own
          obtain ⟨F2, B2, R2, u1, u2⟩ := fin_ok hR hmo S1 hf (fx0 x1) (k1.tups own) fun a q => k1.at (hR.lent a q) fun z => dj a z q
          exact kk _ _ F2 B2 _ k1 R2 (fun a q => n1 a (u1 a q)) (fun a q => (u2 a q).elim id (b1 a)) r g fun a q z => dg a q (u1 a z)
      split at hm
      · rename_i e hbe
        obtain ⟨r, hf, he⟩ := Option.map_eq_some_iff.mp hm
        cases he
        refine ⟨_, F, B, _, S0, dj, hbe, fun σ' H' F' B' k1 S1 n1 b1 x1 => ?_⟩
        exact done hf k1 S1 n1 b1 x1 (.p .non) (fun _ q => nomatch q) fun _ q => nomatch q
      · rename_i d0 e hbe
        obtain ⟨r, hf, he⟩ := Option.map_eq_some_iff.mp hm
        cases he
        exact ⟨_, F, B, _, S0, dj, hbe, fun v σ' H' F' B' G k1 S1 n1 b1 x1 r g dg => done hf k1 S1 n1 b1 x1 r g dg⟩
      · cases hm
    · cases hm
end
end Sm

set_option Elab.async false
set_option linter.all false
set_option maxRecDepth 100000
/-! S11: the calls of defs. -/
namespace Sm
open PySem PySem.Spec PyProof.Rows L2
/-- a def of the module under its name keeps the promise m -/
structure Fn (P : Program) (w : World) (K : PySem.W.Frag) (mg : Str → Option Value) (base : Heap) (k : Nat) (x : Str) (m : List DV → Option (DV × List DV)) : Prop where
  ex : ∃ (f : Addr) (fd : FuncData) (ps : List Str), FnOk P w K mg base CX0 k f fd ps (spF K m) ∧ mg x = some (.ref f) ∧ PySem.W.keepIn K (.ref f) = true ∧ Binds K fd ps []
theorem Fn.mono {P : Program} {w : World} {K : PySem.W.Frag} {mg : Str → Option Value} {base : Heap} {j k : Nat} {x : Str} {m : List DV → Option (DV × List DV)} (h : Fn P w K mg base j x m) (l : j ≤ k) : Fn P w K mg base k x m := by
  obtain ⟨f, fd, ps, F, a, b, c⟩ := h.ex
  exact ⟨f, fd, ps, F.mono l, a, b, c⟩
abbrev Mir := List DV → Option (DV × List DV)
/-- arguments that are new or lent alone: the names stay as they are -/
def qCall (m : Mir) (q : En → Option (List DV)) : En → Option DV := fun env => (q env).bind fun ds => (m ds).map fun x => x.1
/-- arguments with an effect, each pure or new -/
def eCall (m : Mir) (q : En → Option (List DV × En)) : En → Option (DV × En) := fun env => (q env).bind fun x => (m x.1).map fun y => (y.1, x.2)
theorem vals0 (vs : List V) : vs ++ [] = vs := List.append_nil vs
section
variable {X : Cx} {e a b c : Expr} {es : List Expr} {p pos : Pos} {k j : Nat} {x : Str} {m : Mir}
theorem sq_call {q : En → Option (List DV)} (F : Fn X.prog X.w X.K X.mg X.base k x m) (hr : Room j X.A) (hk : k ≤ j) (h : SA X (e :: es) q) (hg : Gl X x := by rfl) (hdb : (x == ("__debug__" : Str)) = false := by decide)
    (he : starEach (e :: es) X.env = (false, eval e X.env) :: starEach es X.env := by rfl) (hpl : (backTo pos (starEach es X.env)).any (·.1) = false := by rfl) :
    SQ X (.Call (.Name x p) (e :: es) [] pos) (qCall m q) := by
  obtain ⟨f, fd, ps, G, hm, hkp, hb⟩ := F.ex
  refine ⟨pe_imp (pe_call (G.mono hk) hr hg hm hkp hb .nil pass0 h.pa hdb he hpl) ?_⟩
  rintro σ H Q ⟨env, F, B, d, hS, dj, hq, kk⟩
  obtain ⟨ds, h1, hq⟩ := Option.bind_eq_some_iff.mp hq
  obtain ⟨⟨d', ds'⟩, h2, rfl⟩ := Option.map_eq_some_iff.mp hq
  refine ⟨env, F, B, ds, hS, dj, h1, fun vs H1 G1 C1 sm r n c => ?_⟩
  show spF X.K m (vs ++ []) H1 Q E0
  rw [vals0]
  refine ⟨ds, G1, C1, d', ds', r, fun a q z => ?_, h2, r.length.symm, fun v H' F' B' G2 k1 _ _ _ r2 n2 _ => ?_⟩
  · have := n a q
    rcases c a z with z | z
    · obtain ⟨o, e, _⟩ := hS.own a z
      rw [this] at e; cases e
    · obtain ⟨o, e⟩ := hS.lent a z
      rw [this] at e; cases e
  · refine kk v H' G2 [] (fun a o e => k1 a o (sm a o e) fun z => by rw [n a z] at e; cases e) r2 (fun a q => ?_) fun _ q => nomatch q
    rcases n2 a q with z | z
    · exact n a z
    · exact sm.free z
theorem se_call {q : En → Option (List DV × En)} (F : Fn X.prog X.w X.K X.mg X.base k x m) (hr : Room j X.A) (hk : k ≤ j) (h : SAE X (e :: es) q) (hg : Gl X x := by rfl) (hdb : (x == ("__debug__" : Str)) = false := by decide)
    (he : starEach (e :: es) X.env = (false, eval e X.env) :: starEach es X.env := by rfl) (hpl : (backTo pos (starEach es X.env)).any (·.1) = false := by rfl) :
    SE X (.Call (.Name x p) (e :: es) [] pos) (eCall m q) := by
  obtain ⟨f, fd, ps, G, hm, hkp, hb⟩ := F.ex
  refine ⟨pe_imp (pe_call (G.mono hk) hr hg hm hkp hb .nil pass0 h.pa hdb he hpl) ?_⟩
  rintro σ H Q ⟨env, F, B, d, env', hS, dj, hq, kk⟩
  obtain ⟨⟨ds, e1⟩, h1, hq⟩ := Option.bind_eq_some_iff.mp hq
  obtain ⟨⟨d', ds'⟩, h2, h3⟩ := Option.map_eq_some_iff.mp hq
  cases h3
  refine ⟨env, F, B, ds, _, hS, dj, h1, fun vs H1 F1 B1 G1 k1 S1 n1 b1 r1 g1 dg1 => ?_⟩
  show spF X.K m (vs ++ []) H1 Q E0
  rw [vals0]
  refine ⟨ds, G1, [], d', ds', r1, (fun _ _ z => nomatch z), h2, r1.length.symm, fun v H' F' B' G2 k2 _ _ _ r2 n2 _ => ?_⟩
  have gB : Disj G1 B1 := fun a q z => by
    rcases g1 a q with q | q
    · exact dj a q (b1 a z)
    · obtain ⟨o, e⟩ := hS.lent a (b1 a z)
      rw [q] at e; cases e
  have k12 : Keep F H H' := k1.trans k2 g1
  refine kk v H' F1 B1 G2 k12 (S1.keep k2 (fun x q => r1.own x q) dg1 gB) n1 b1 r2 (fun a q => ?_) fun a q z => ?_
  · rcases n2 a q with z | z
    · exact g1 a z
    · exact nw_upd k1 z
  · rcases n2 a q with z' | z'
    · exact dg1 a z' z
    · obtain ⟨o, e, _⟩ := S1.own a z
      rw [z'] at e; cases e
/-! ### the first argument a name whose list the callee changes -/
/-- arguments: some with an effect (each pure or new), then some that are quiet; the slot hidden for these -/
def rAM (K : PySem.W.Frag) (j : Nat) (f : En → Option (List DV × En)) : TA := fun σ H Q => ∃ env F B ds env', StR K H σ env F B ∧ Disj F B ∧ f env = some (ds, env') ∧
  ∀ vs H' F' B' G C v d0 G0 F1 B1, Keep F H H' → StR K H' σ env' F' B' → Nw F H F' → Sb B B' → env'.g j = some d0 → σ[j]? = some (some v) → Rp K H' v d0 G0 [] → (∀ a ∈ G0, a ∈ F') → StR K H' σ (env'.set j none) F1 B1 → (∀ a ∈ F1, a ∈ F') → Sb B' B1 → Disj G0 F1 → RpAll K H' vs ds G C → Nw F H G → Disj G F' → (∀ a ∈ C, a ∈ F1 ∨ a ∈ B') → Q vs H'
structure SAM (X : Cx) (j : Nat) (es : List Expr) (f : En → Option (List DV × En)) : Prop where
  pa : PA X es (rAM X.K j f)
def amQ (j : Nat) (q : En → Option (List DV)) : En → Option (List DV × En) := fun env => match env.g j with
  | some d0 => if d0.owned then (q (env.set j none)).map fun ds => (ds, env) else none
  | none => none
def amE (f : En → Option (DV × En)) (r : En → Option (List DV × En)) : En → Option (List DV × En) := fun env => (f env).bind fun x => (r x.2).map fun y => (x.1 :: y.1, y.2)
theorem sam_q {q : En → Option (List DV)} (h : SA X es q) : SAM X j es (amQ j q) := by
  refine ⟨pa_imp h.pa ?_⟩
  rintro σ H Q ⟨env, F, B, ds, env', hS, dj, hq, kk⟩
  unfold amQ at hq
  split at hq
  · rename_i d0 h0
    split at hq
    · rename_i ho
      obtain ⟨ds', h1, h2⟩ := Option.map_eq_some_iff.mp hq
      cases h2
      obtain ⟨v, G, C, F1, B1, e1, r, s1, s2, S1, u1, u2, dg⟩ := hS.take (En.g_some h0)
      have hC := r.of_owned ho
      subst hC
      refine ⟨_, F1, B1, _, S1, (fun a q z => dj a (u1 a q) (u2 a z)), h1, fun vs H' G2 C2 sm r2 n2 c2 => ?_⟩
      refine kk vs H' F B G2 C2 v d0 G F1 B1 sm.keep (hS.same sm) Nw.self Sb.self h0 e1 (r.same sm) s1 (S1.same sm) u1 u2 dg r2 (fun a q => .inr (n2 a q)) (fun a q z => ?_) fun a q => (c2 a q).imp id (u2 a)
      obtain ⟨o, e, _⟩ := hS.own a z
      rw [n2 a q] at e; cases e
    · cases hq
  · cases hq
theorem sam_e {f : En → Option (DV × En)} {r : En → Option (List DV × En)} (h : SE X e f) (g : SAM X j es r) (hs : starEach (e :: es) X.env = (false, eval e X.env) :: starEach es X.env := by rfl) : SAM X j (e :: es) (amE f r) := by
  refine ⟨pa_imp (pa_cons h.pe g.pa hs) ?_⟩
  rintro σ H Q ⟨env, F, B, ds, env', hS, dj, hq, k⟩
  obtain ⟨⟨d, env1⟩, h1, hq⟩ := Option.bind_eq_some_iff.mp hq
  obtain ⟨⟨ds', env2⟩, h2, h3⟩ := Option.map_eq_some_iff.mp hq
  cases h3
  refine ⟨env, F, B, d, env1, hS, dj, h1, fun v H1 F1 B1 G1 k1 S1 n1 b1 r1 g1 d1 => ?_⟩
  have dj1 := dj_of hS dj n1 b1
  refine ⟨env1, F1, B1, ds', _, S1, dj1, h2, fun vs H2 F2 B2 G2 C2 w d0 G0 F3 B3 k2 S2 n2 b2 eg ew r0 g0 S3 f3 b3 dg0 r2 g2 d2 c2 => ?_⟩
  have gd : ∀ x ∈ G1, ∃ o, H1 x = some o := fun x q => let ⟨o, e, _⟩ := r1.own x q; ⟨o, e⟩
  have gB : ∀ a ∈ G1, a ∉ B1 := fun a q z => by
    rcases g1 a q with q | q
    · exact dj a q (b1 a z)
    · obtain ⟨o, e⟩ := hS.lent a (b1 a z)
      rw [q] at e; cases e
  refine k (v :: vs) H2 F2 B2 (G1 ++ G2) C2 w d0 G0 F3 B3 (k1.trans k2 n1) S2 (Nw.trans k1 n1 n2) (b1.trans b2) eg ew r0 g0 S3 f3 b3 dg0 ?_ (fun x q => ?_) (fun x q z => ?_) c2
  · refine .cons (B := []) (r1.keep k2 (fun x q => S1.own x q) (fun x q z => d1 x z q) fun _ _ z => nomatch z) r2 fun x q z => ?_
    rcases g2 x z with z | z
    · exact d1 x q z
    · obtain ⟨o, e⟩ := gd x q
      rw [z] at e; cases e
  · exact (List.mem_append.mp q).elim (g1 x) (Nw.trans k1 n1 g2 x)
  · rcases List.mem_append.mp q with q | q
    · rcases n2 x z with z | z
      · exact d1 x q z
      · obtain ⟨o, e⟩ := gd x q
        rw [z] at e; cases e
    · exact d2 x q z
def eCallM (m : Mir) (j : Nat) (f : En → Option (List DV × En)) : En → Option (DV × En) := fun env => match env.g j with
  | none => none
  | some _ => (f env).bind fun x => match x.2.g j with
    | none => none
    | some d0 => (m (d0 :: x.1)).bind fun y => match y.2 with
      | d1 :: _ => if d1.owned then some (y.1, x.2.set j (some d1)) else none
      | [] => none
theorem se_callM {y : Str} {f : En → Option (List DV × En)} {yp : Pos} (F : Fn X.prog X.w X.K X.mg X.base k x m) {i : Nat} (hr : Room i X.A) (hk : k ≤ i) (h : SAM X j es f) (hN : X.N[j]? = some y := by rfl) (hg : Gl X x := by rfl)
    (hv : Vis X.env.scope y := by first | exact Or.inl rfl | exact Or.inr (Or.inl rfl) | exact Or.inr (Or.inr rfl)) (hd : (y == ("__debug__" : Str)) = false := by decide) (hcd : (y == ("__classdict__" : Str)) = false := by decide)
    (hdb : (x == ("__debug__" : Str)) = false := by decide) (he : starEach (.Name y yp :: es) X.env = (false, eval (.Name y yp) X.env) :: starEach es X.env := by rfl) (hpl : (backTo pos (starEach es X.env)).any (·.1) = false := by rfl) :
    SE X (.Call (.Name x p) (.Name y yp :: es) [] pos) (eCallM m j f) := by
  obtain ⟨fa, fd, ps, G, hm, hkp, hb⟩ := F.ex
  refine ⟨pe_imp (pe_call (G.mono hk) hr hg hm hkp hb .nil pass0 (pa_cons (pe_var hN hv hd hcd) h.pa he) hdb he hpl) ?_⟩
  rintro σ H Q ⟨env, F, B, d, env', hS, dj, hq, kk⟩
  unfold eCallM at hq
  split at hq
  · cases hq
  · rename_i d00 h0
    obtain ⟨⟨ds, e1⟩, h1, hq⟩ := Option.bind_eq_some_iff.mp hq
    dsimp only at hq
    split at hq
    · cases hq
    · rename_i d0 h2
      obtain ⟨⟨d', ds'⟩, h3, hq⟩ := Option.bind_eq_some_iff.mp hq
      dsimp only at hq
      split at hq
      · rename_i d1 rest
        split at hq
        · rename_i ho
          cases hq
          obtain ⟨v, G0, C0, ev, r0, _, _⟩ := hS.get (En.g_some h0)
          refine ⟨v, ev, env, F, B, ds, e1, hS, dj, h1, fun vs H1 F1 B1 G1 C1 v' d0' G2 F3 B3 k1 S1 n1 b1 eg ew rr g2 S3 f3 b3 dg r1 g1 dg1 c1 => ?_⟩
          show spF X.K m ((v :: vs) ++ []) H1 Q E0
          rw [vals0]
          rw [h2] at eg; cases eg
          rw [ev] at ew; cases ew
          have djF1 := dj_of hS dj n1 b1
          have gB : Disj G1 B1 := fun a q z => by
            rcases g1 a q with q | q
            · exact dj a q (b1 a z)
            · obtain ⟨o, e⟩ := hS.lent a (b1 a z)
              rw [q] at e; cases e
          have rall : RpAll X.K H1 (v :: vs) (d0 :: ds) (G2 ++ G1) ([] ++ C1) := .cons rr r1 fun a q z => dg1 a z (g2 a q)
          refine ⟨_, _, _, _, _, rall, fun a q z => ?_, h3, rall.length.symm, fun w H' F' B' G4 k2 r2 n2 b2 rw0 n4 d4 => ?_⟩
          · rcases List.mem_append.mp q with q | q
            · rcases c1 a (by simpa using z) with z | z
              · exact dg a q z
              · exact djF1 a (g2 a q) z
            · rcases c1 a (by simpa using z) with z | z
              · exact dg1 a q (f3 a z)
              · exact gB a q z
          · cases r2 with
            | @cons _ _ _ _ Fa Fb Ba Bb ra rb dab =>
              have hBa := ra.of_owned ho
              subst hBa
              have own2 : ∀ x ∈ G2 ++ G1, ∃ o, H1 x = some o ∧ Mub o := rall.own
              have dj3 : Disj (G2 ++ G1) F3 := fun a q z => (List.mem_append.mp q).elim (fun q => dg a q z) fun q => dg1 a q (f3 a z)
              have S3' := S3.keep k2 own2 dj3 fun a q z => (List.mem_append.mp q).elim (fun q => djF1 a (g2 a q) (b3 a z)) fun q => gB a q (b3 a z)
              have hj : j < (e1.set j none).length := by
                rw [List.length_set]
                exact (List.getElem?_eq_some_iff.mp (En.g_some h2)).1
              have nFa : ∀ a ∈ Fa, a ∉ F3 := fun a q z => by
                rcases n2 a (List.mem_append_left _ q) with y | y
                · exact dj3 a y z
                · obtain ⟨o, e, _⟩ := S3.own a z
                  rw [y] at e; cases e
              obtain ⟨F5, B5, S5, w1, w2⟩ := S3'.set hj ra nFa
              rw [List.set_set, set_self ev] at S5
              have n12 : Nw F H (G2 ++ G1) := fun a q => (List.mem_append.mp q).elim (fun q => n1 a (g2 a q)) (g1 a)
              refine kk w H' F5 B5 G4 (k1.trans k2 n12) S5 (fun a q => ?_) (fun a q => ?_) rw0 (fun a q => ?_) fun a q z => ?_
              · rcases w1 a q with q | q
                · exact Nw.trans k1 n12 (fun a q => n2 a (List.mem_append_left _ q)) a q
                · exact n1 a (f3 a q)
              · rcases w2 a q with q | q
                · cases q
                · exact b1 a (b3 a q)
              · exact Nw.trans k1 n12 n4 a q
              · rcases w1 a z with z | z
                · exact d4 a q (List.mem_append_left _ z)
                · rcases n4 a q with y | y
                  · exact dj3 a y z
                  · obtain ⟨o, e, _⟩ := S3.own a z
                    rw [y] at e; cases e
        · cases hq
      · cases hq
end
/-- a def of the text -/
theorem fn_of_def {P : Program} {w : World} {K : PySem.W.Frag} {mg : Str → Option Value} {base : Heap} {x : Str} {st : Stmt} {f : Addr} {fd : FuncData} {N ps : List Str} {k : Nat} {ms : List Bool} {b : Bk} (F : FunD K x x (defArgs st) (defBody st) (defScope st) [] [] f fd) (hm : mg x = some (.ref f))
    (hb : Binds K fd ps []) (S : FnScope N ps (defScope st)) (hps : ps.length = ms.length)
    (hd : ∀ (cdv : Value) (A : Around) (outer : List PySem.Env) (s : Shared) (H : Hp) (E : XK), Room k (A.deeper (envOfC x (defScope st) s.heap.objs.size f cdv)) →
      SSs (cxOf CX0 P w K mg base N x (defScope st) f cdv A outer s H E).nox (fxm ms) (defBody st) b) : Fn P w K mg base (k + 1) x (runF ms N.length b) :=
  ⟨f, fd, ps, def_ok F S hps hd, hm, F.kp, hb⟩
end Sm

set_option Elab.async false
set_option linter.all false
set_option maxRecDepth 100000
/-! S12: three names at once. -/
namespace Sm
open PySem PySem.Spec PyProof.Rows L2
section
variable {X : Cx} {fx : Nat → Bool} {a b c : Expr} {pos : Pos}
theorem app_nil {G C : Fp} (h : ([] : Fp) = G ++ C) : G = [] ∧ C = [] := by
  cases G with
  | nil => exact ⟨rfl, h.symm⟩
  | cons _ _ => cases h
/-- slots set one after the other -/
theorem sets_ok {K : PySem.W.Frag} {H : Hp} : ∀ {is : List Nat} {ds : List DV} {vs : List V} {σ : Sg} {env e : En} {F B G C : Fp}, StR K H σ env F B → RpAll K H vs ds G C → C = [] → Disj G F → gSets is ds env = some e → ∃ F' B', StR K H ((is.zip vs).foldl (fun s p => s.set p.1 (some p.2)) σ) e F' B' ∧ (∀ a ∈ F', a ∈ G ∨ a ∈ F) ∧ Sb B B'
  | [], [], _, _, _, _, _, _, _, _, hS, hR, _, _, h => by
    cases hR
    cases h
    exact ⟨_, _, hS, fun a q => .inr q, Sb.self⟩
  | [], _ :: _, _, _, _, _, _, _, _, _, _, _, _, _, h => by cases h
  | _ :: _, [], _, _, _, _, _, _, _, _, _, _, _, _, h => by cases h
  | i :: is, d :: ds, _, σ, env, e, F, B, _, _, hS, hR, hC, dj, h => by
    cases hR with
    | @cons v vs _ _ G1 G2 C1 C2 r rr dd =>
      obtain ⟨rfl, rfl⟩ := app_nil hC.symm
      simp only [gSets] at h
      split at h
      · rename_i hl
        obtain ⟨F1, B1, S1, u1, u2⟩ := hS.set hl r fun a q => dj a (List.mem_append_left _ q)
        obtain ⟨F2, B2, S2, w1, w2⟩ := sets_ok S1 rr rfl (fun a q z => by
          rcases u1 a z with z | z
          · exact dd a z q
          · exact dj a (List.mem_append_right _ q) z) h
        refine ⟨F2, B2, S2, fun a q => ?_, fun a q => ?_⟩
        · rcases w1 a q with q | q
          · exact .inl (List.mem_append_right _ q)
          · exact (u1 a q).imp (List.mem_append_left _) id
        · rcases u2 a (w2 a q) with z | z
          · cases z
          · exact z
      · cases h
theorem ss_par3 (i j l : Nat) {x y z : Str} {px py pz pt : Pos} {kt k2 pt2} {f : En → Option (List DV × En)} (hN : X.N.Nodup) (ha : SAE X [a, b, c] f) (hc : X.calm = true := by rfl) (hi : X.N[i]? = some x := by rfl) (hj : X.N[j]? = some y := by rfl) (hl : X.N[l]? = some z := by rfl)
    (hij : i ≠ j := by decide) (hil : i ≠ l := by decide) (hjl : j ≠ l := by decide)
    (hx : X.env.scope.names.lookup x = some .local := by rfl) (hy : X.env.scope.names.lookup y = some .local := by rfl) (hz : X.env.scope.names.lookup z = some .local := by rfl)
    (hw : swappedStores [.Tuple [.Name x px, .Name y py, .Name z pz] kt pt] (.Tuple [a, b, c] k2 pt2) X.env = pure (some [x, y, z]) := by rfl)
    (hs : swapsWithSole [.Tuple [.Name x px, .Name y py, .Name z pz] kt pt] (.Tuple [a, b, c] k2 pt2) pos.line X.env = pure false := by rfl) (hfx : fx i = false := by rfl) (hfy : fx j = false := by rfl) (hfz : fx l = false := by rfl) :
    SS X fx (.Assign [.Tuple [.Name x px, .Name y py, .Name z pz] kt pt] (.Tuple [a, b, c] k2 pt2) pos) (sPar [i, j, l] f) := by
  refine ⟨ps_imp (ps_par3 hc hN hi hj hl hij hil hjl hx hy hz ha.pa hw hs) fun D σ H h => ?_⟩
  obtain ⟨env, F, B, o, hS, dj, hb, k⟩ := h
  obtain ⟨⟨ds, e1⟩, h1, h2⟩ := Option.bind_eq_some_iff.mp hb
  obtain ⟨e2, h3, rfl⟩ := Option.map_eq_some_iff.mp h2
  refine ⟨env, F, B, ds, e1, hS, dj, h1, fun vs H1 F1 B1 G k1 S1 n1 b1 r g d1 => ?_⟩
  have hlen : ds.length = 3 := by
    match ds, h3 with
    | [_, _, _], _ => rfl
    | [], h => simp [gSets] at h
    | [_], h => simp [gSets] at h
    | [_, _], h => simp [gSets] at h
    | _ :: _ :: _ :: _ :: _, h => simp [gSets] at h
  obtain ⟨u, v, w, rfl⟩ : ∃ u v w, vs = [u, v, w] := by
    have := r.length
    rw [hlen] at this
    match vs, this with
    | [u, v, w], _ => exact ⟨u, v, w, rfl⟩
  obtain ⟨F2, B2, S2, w1, w2⟩ := sets_ok S1 r rfl d1 h3
  refine ⟨u, v, w, rfl, k _ H1 F2 B2 k1 S2 (fun a q => (w1 a q).elim (g a) (n1 a)) (fun a q => b1 a (w2 a q)) fun m hm => ?_⟩
  show (((σ.set i (some u)).set j (some v)).set l (some w))[m]? = _
  rw [List.getElem?_set_ne (by rintro rfl; rw [hfz] at hm; cases hm), List.getElem?_set_ne (by rintro rfl; rw [hfy] at hm; cases hm), List.getElem?_set_ne (by rintro rfl; rw [hfx] at hm; cases hm)]
end
end Sm

set_option Elab.async false
set_option linter.all false
set_option maxRecDepth 100000
/-! S13: the law's argument. -/
namespace Sm
open PySem PySem.Spec PyProof.Rows L2
theorem sp_script {K : PySem.W.Frag} {H : Hp} {a : Addr} {ns : List Int} {m : Mir} (hl : ns.length ≤ 63) (hO : Only H) (hS : SqL K H a (ns.map V.int)) (h : ∀ d : DV, ns.length ≤ 63 → (d = .ro (ns.map PV.int) ∨ d = .fz (ns.map PV.int)) → ∃ ds', m [d] = some (.p (.bl true), ds')) :
    spF K m [.ref a] H (fun v _ => v = .bl true) fun _ _ _ => False := by
  have rep : ∃ d B, (d = .ro (ns.map PV.int) ∨ d = .fz (ns.map PV.int)) ∧ Rp K H (.ref a) d [] B := by
    rcases hS with (h | ⟨o, h⟩) | h
    · exact ⟨_, _, .inl rfl, .ro h (RPs.int ns)⟩
    · exact ⟨_, _, .inr rfl, .fz h (RPs.int ns)⟩
    · exact ⟨_, _, .inr rfl, .fk h (RPs.int ns)⟩
  obtain ⟨d, B, hd, r⟩ := rep
  obtain ⟨ds', e⟩ := h d hl hd
  refine ⟨[d], [], B, _, ds', ?_, (fun _ q => nomatch q), e, rfl, fun v H' F' B' G k r' n b rv g dj => ?_⟩
  · have := RpAll.cons (G := []) (C := []) r .nil fun _ q => nomatch q
    rw [List.append_nil] at this
    simpa using this
  · obtain ⟨rp, _, _⟩ := rv.pure
    cases rp
    rfl
end Sm

set_option Elab.async false
set_option linter.all false
set_option maxRecDepth 100000
/-! S14: how a mirror is read. -/
namespace Sm
open PySem PySem.Spec PyProof.Rows L2
/-! ### slots -/
theorem g_zero (o : Option DV) (e : En) : En.g (o :: e) 0 = o := by cases o <;> rfl
theorem g_succ (o : Option DV) (e : En) (i : Nat) : En.g (o :: e) (i + 1) = En.g e i := rfl
theorem g_nil (i : Nat) : En.g ([] : En) i = none := rfl
/-! ### items -/
theorem atI_nat {α : Type} (xs : List α) (n : Nat) : atI xs (n : Int) = xs[n]? := by
  unfold atI ixN
  rw [if_pos (by omega)]
  by_cases h : n < xs.length
  · rw [if_pos (by omega)]
    simp
  · rw [if_neg (by omega)]
    simp [List.getElem?_eq_none (Nat.le_of_not_lt h)]
theorem atI_pos {α : Type} (xs : List α) {i : Int} (h : 0 ≤ i) : atI xs i = xs[i.toNat]? := by
  have := atI_nat xs i.toNat
  rwa [Int.toNat_of_nonneg h] at this
theorem atI_0 {α : Type} (xs : List α) : atI xs 0 = xs[0]? := atI_nat xs 0
theorem atI_1 {α : Type} (xs : List α) : atI xs 1 = xs[1]? := atI_nat xs 1
theorem atI_2 {α : Type} (xs : List α) : atI xs 2 = xs[2]? := atI_nat xs 2
theorem atI_3 {α : Type} (xs : List α) : atI xs 3 = xs[3]? := atI_nat xs 3
theorem atI_last {α : Type} (xs : List α) : atI xs (-1) = xs.getLast? := by
  unfold atI ixN
  rw [if_neg (by decide)]
  cases xs with
  | nil => rfl
  | cons x r =>
    rw [if_pos (by simp only [List.length_cons]; omega)]
    rw [List.getLast?_eq_getElem?]
    simp only [Option.bind_some]
    congr 1
    simp only [List.length_cons]
    omega
theorem ixN_nat {n k : Nat} (h : k < n) : ixN n (k : Int) = some k := by
  unfold ixN
  rw [if_pos (by omega), if_pos (by omega)]
  simp
theorem ixN_0 {n : Nat} (h : 0 < n) : ixN n 0 = some 0 := ixN_nat h
theorem ixN_1 {n : Nat} (h : 1 < n) : ixN n 1 = some 1 := ixN_nat h
theorem ixN_2 {n : Nat} (h : 2 < n) : ixN n 2 = some 2 := ixN_nat h
theorem cutL_hi {α : Type} (xs : List α) (n : Nat) : cutL xs none (some (n : Int)) = xs.take n := by
  unfold cutL
  rw [HT.sIx_none, HT.sIx_nat]
  simp only [List.drop_zero, Nat.sub_zero]
  by_cases h : n ≤ xs.length
  · rw [Nat.min_eq_left h]
  · rw [Nat.min_eq_right (by omega), List.take_of_length_le (Nat.le_refl _), List.take_of_length_le (by omega)]
theorem cutL_hi' {α : Type} (xs : List α) {n : Int} (h : 0 ≤ n) : cutL xs none (some n) = xs.take n.toNat := by
  have := cutL_hi xs n.toNat
  rwa [Int.toNat_of_nonneg h] at this
theorem cutL_lo {α : Type} (xs : List α) (n : Nat) : cutL xs (some (n : Int)) none = xs.drop n := by
  unfold cutL
  rw [HT.sIx_none, HT.sIx_nat]
  by_cases h : n ≤ xs.length
  · rw [Nat.min_eq_left h]
    exact List.take_of_length_le (by simp)
  · rw [Nat.min_eq_right (by omega), List.drop_of_length_le (Nat.le_refl _), List.drop_of_length_le (by omega)]
    simp
theorem cutL_lo' {α : Type} (xs : List α) {n : Int} (h : 0 ≤ n) : cutL xs (some n) none = xs.drop n.toNat := by
  have := cutL_lo xs n.toNat
  rwa [Int.toNat_of_nonneg h] at this
theorem cutL_lo1 {α : Type} (xs : List α) : cutL xs (some 1) none = xs.drop 1 := cutL_lo xs 1
theorem cutL_hi1 {α : Type} (xs : List α) : cutL xs none (some 1) = xs.take 1 := cutL_hi xs 1
theorem cutL_hi2 {α : Type} (xs : List α) : cutL xs none (some 2) = xs.take 2 := cutL_hi xs 2
theorem cutL_last {α : Type} (xs : List α) : cutL xs none (some (-1)) = xs.dropLast := by
  unfold cutL
  show (xs.drop 0).take ((if (-1 : Int) < 0 then ((-1 : Int) + (xs.length : Int)).toNat else min (-1 : Int).toNat xs.length) - 0) = _
  rw [if_pos (by decide), List.dropLast_eq_take]
  simp only [List.drop_zero, Nat.sub_zero]
  congr 1
  omega
theorem mkC_pure (xs : List PV) : mkC (xs.map DV.p) = .lst xs := by simp [mkC, pures_map]
/-! ### equal -/
mutual
def PV.sh : Nat → PV → Bool
  | _, .non => true
  | _, .bl _ => true
  | _, .int _ => true
  | _, .str s => PyData.strOk s
  | 0, .tup _ => false
  | n + 1, .tup xs => PV.shs n xs
def PV.shs : Nat → List PV → Bool
  | _, [] => true
  | n, x :: xs => PV.sh n x && PV.shs n xs
end
theorem shs_iff {n : Nat} : ∀ {xs : List PV}, PV.shs n xs = true ↔ ∀ x ∈ xs, PV.sh n x = true
  | [] => by simp [PV.shs]
  | x :: xs => by simp [PV.shs, shs_iff (n := n) (xs := xs)]
mutual
theorem sh_ok : ∀ {x : PV} {n : Nat}, PV.sh n x = true → x.toD.canLay0 = true ∧ x.toD.depth ≤ n
  | .non, _, _ => by simp [PV.toD, PyData.canLay0, PyData.depth]
  | .bl _, _, _ => by simp [PV.toD, PyData.canLay0, PyData.depth]
  | .int _, _, _ => by simp [PV.toD, PyData.canLay0, PyData.depth]
  | .str s, n, h => by
    have h : PyData.strOk s = true := by cases n <;> simpa [PV.sh] using h
    simp [PV.toD, PyData.canLay0, PyData.depth, h]
  | .tup xs, 0, h => by simp [PV.sh] at h
  | .tup xs, n + 1, h => by
    rw [PV.sh] at h
    have := shs_ok h
    simp [PV.toD, PyData.canLay0, PyData.depth, this.1, this.2]
theorem shs_ok : ∀ {xs : List PV} {n : Nat}, PV.shs n xs = true → PyData.canLayAll0 (PV.toDs xs) = true ∧ PyData.depthAll (PV.toDs xs) ≤ n
  | [], _, _ => by simp [PV.toDs, PyData.canLayAll0, PyData.depthAll]
  | x :: xs, n, h => by
    simp only [PV.shs, Bool.and_eq_true] at h
    have a := sh_ok h.1
    have b := shs_ok h.2
    simp only [PV.toDs, PyData.canLayAll0, PyData.depthAll, a.1, b.1]
    exact ⟨rfl, Nat.max_le.mpr ⟨a.2, b.2⟩⟩
end
def PV.good (x : PV) : Bool := PV.sh 64 x
theorem good_shaped {x : PV} (h : x.good = true) : SeqAt.shaped x.toD = true := by
  have := sh_ok h
  simp [SeqAt.shaped, this.1, this.2]
mutual
theorem eqv_self : ∀ (x : PV), PyData.eqv x.toD x.toD = true
  | .non => by simp [PV.toD, PyData.eqv]
  | .bl b => by simp [PV.toD, PyData.eqv]
  | .int i => by simp [PV.toD, PyData.eqv]
  | .str s => by simp [PV.toD, PyData.eqv]
  | .tup xs => by simp only [PV.toD, PyData.eqv]; exact eqvs_self xs
theorem eqvs_self : ∀ (xs : List PV), PyData.eqvAll (PV.toDs xs) (PV.toDs xs) = true
  | [] => by simp [PV.toDs, PyData.eqvAll]
  | x :: xs => by simp [PV.toDs, PyData.eqvAll, eqv_self x, eqvs_self xs]
end
theorem dEq_self {x : PV} (h : x.good = true) : dEq (.p x) (.p x) = some (.p (.bl true)) := by
  simp [dEq, DV.toD?, good_shaped h, eqv_self]
theorem dNe_self {x : PV} (h : x.good = true) : dNe (.p x) (.p x) = some (.p (.bl false)) := by
  simp [dNe, DV.toD?, good_shaped h, eqv_self]
theorem good_int (i : Int) : (PV.int i).good = true := by simp [PV.good, PV.sh]
theorem good_bl (i : Bool) : (PV.bl i).good = true := by simp [PV.good, PV.sh]
theorem dEq_int (i j : Int) : dEq (.p (.int i)) (.p (.int j)) = some (.p (.bl (decide (i = j)))) := by
  simp [dEq, DV.toD?, good_shaped (good_int _), PV.toD, PyData.eqv, SeqAt.shaped, PyData.canLay0, PyData.depth]
  by_cases h : i = j <;> simp [h]
theorem dNe_int (i j : Int) : dNe (.p (.int i)) (.p (.int j)) = some (.p (.bl (!decide (i = j)))) := by
  simp [dNe, DV.toD?, PV.toD, PyData.eqv, SeqAt.shaped, PyData.canLay0, PyData.depth]
  by_cases h : i = j <;> simp [h]
theorem dEq_bl (i j : Bool) : dEq (.p (.bl i)) (.p (.bl j)) = some (.p (.bl (i == j))) := by
  simp [dEq, DV.toD?, PV.toD, PyData.eqv, SeqAt.shaped, PyData.canLay0, PyData.depth]
theorem dEq_str {a b : Str} (ha : PyData.strOk a = true) (hb : PyData.strOk b = true) : dEq (.p (.str a)) (.p (.str b)) = some (.p (.bl (a == b))) := by
  simp [dEq, DV.toD?, PV.toD, PyData.eqv, SeqAt.shaped, PyData.canLay0, PyData.depth, ha, hb]
theorem dNe_str {a b : Str} (ha : PyData.strOk a = true) (hb : PyData.strOk b = true) : dNe (.p (.str a)) (.p (.str b)) = some (.p (.bl (!(a == b)))) := by
  simp [dNe, DV.toD?, PV.toD, PyData.eqv, SeqAt.shaped, PyData.canLay0, PyData.depth, ha, hb]
/-- against () -/
theorem dNe_nil {xs : List PV} (h : (PV.tup xs).good = true) : dNe (.p (.tup xs)) (.p (.tup [])) = some (.p (.bl (!xs.isEmpty))) := by
  have := good_shaped h
  cases xs with
  | nil => simpa using dNe_self h
  | cons x xs =>
    have e : SeqAt.shaped (PV.tup []).toD = true := good_shaped (by simp [PV.good, PV.sh, PV.shs])
    simp [dNe, DV.toD?, this, e]
    simp [PV.toD, PV.toDs, PyData.eqv, PyData.eqvAll]
/-! ### loops -/
theorem forL_run {t : DV → En → Option En} {b : Bk} (I : Nat → En → Prop) : ∀ {ds : List DV} {n : Nat} {env : En}, I n env → (∀ i d e, ds[i]? = some d → I (n + i) e → ∃ e1 e2, t d e = some e1 ∧ (b e1 = some (.nx e2) ∨ b e1 = some (.ct e2)) ∧ I (n + i + 1) e2) →
    ∃ e', forL t b ds env = some (.nx e') ∧ I (n + ds.length) e'
  | [], n, env, h0, _ => ⟨env, rfl, h0⟩
  | d :: ds, n, env, h0, hs => by
    obtain ⟨e1, e2, h1, h2, h3⟩ := hs 0 d env rfl h0
    obtain ⟨e', h4, h5⟩ := forL_run I (ds := ds) (n := n + 1) h3 fun i d e hd hi => by
      have := hs (i + 1) d e (by simpa using hd) (by rw [show n + (i + 1) = n + 1 + i by omega]; exact hi)
      rw [show n + (i + 1) + 1 = n + 1 + i + 1 by omega] at this
      exact this
    refine ⟨e', ?_, by rw [List.length_cons, show n + (ds.length + 1) = n + 1 + ds.length by omega]; exact h5⟩
    simp only [forL, h1]
    rcases h2 with h2 | h2 <;> simp only [h2] <;> exact h4
/-- by items: the items done are a front of the list -/
theorem forL_items {α : Type} {t : DV → En → Option En} {b : Bk} (f : α → DV) (xs : List α) (I : List α → En → Prop) {env : En} (h0 : I [] env) (hs : ∀ pre x post e, xs = pre ++ x :: post → I pre e → ∃ e1 e2, t (f x) e = some e1 ∧ (b e1 = some (.nx e2) ∨ b e1 = some (.ct e2)) ∧ I (pre ++ [x]) e2) :
    ∃ e', forL t b (xs.map f) env = some (.nx e') ∧ I xs e' := by
  have key : ∀ (post pre : List α) (e : En), xs = pre ++ post → I pre e → ∃ e', forL t b (post.map f) e = some (.nx e') ∧ I xs e' := by
    intro post
    induction post with
    | nil => intro pre e h hi; rw [List.append_nil] at h; subst h; exact ⟨e, rfl, hi⟩
    | cons x post ih =>
      intro pre e h hi
      obtain ⟨e1, e2, h1, h2, h3⟩ := hs pre x post e h hi
      obtain ⟨e', h4, h5⟩ := ih (pre ++ [x]) e2 (by rw [h]; simp) h3
      refine ⟨e', ?_, h5⟩
      simp only [List.map_cons, forL, h1]
      rcases h2 with h2 | h2 <;> simp only [h2] <;> exact h4
  exact key xs [] env rfl h0
/-- .. by a function on a state that the names hold -/
theorem forL_fold {α S : Type} {t : DV → En → Option En} {b : Bk} (f : α → DV) (J : S → En → Prop) (step : S → α → S) (ok : S → List α → Prop) : ∀ (xs : List α) (s : S) (env : En), J s env → ok s xs → (∀ s x r e, ok s (x :: r) → J s e → ∃ e1 e2, t (f x) e = some e1 ∧ (b e1 = some (.nx e2) ∨ b e1 = some (.ct e2)) ∧ J (step s x) e2 ∧ ok (step s x) r) →
    ∃ e', forL t b (xs.map f) env = some (.nx e') ∧ J (xs.foldl step s) e' ∧ ok (xs.foldl step s) []
  | [], s, env, h0, ho, _ => ⟨env, rfl, h0, ho⟩
  | x :: xs, s, env, h0, ho, hs => by
    obtain ⟨e1, e2, h1, h2, h3, h4⟩ := hs s x xs env ho h0
    obtain ⟨e', h5, h6⟩ := forL_fold f J step ok xs (step s x) e2 h3 h4 hs
    refine ⟨e', ?_, h6⟩
    simp only [List.map_cons, forL, h1]
    rcases h2 with h2 | h2 <;> simp only [h2] <;> exact h5
theorem whileL_run {t : En → Option (Bool × En)} {b : Bk} (I : Nat → En → Prop) (P : En → Prop) (hs : ∀ n e, I n e → (∃ e1, t e = some (false, e1) ∧ P e1) ∨ ∃ e1 e2 m, t e = some (true, e1) ∧ (b e1 = some (.nx e2) ∨ b e1 = some (.ct e2)) ∧ m < n ∧ I m e2) :
    ∀ (n fu : Nat) (e : En), n < fu → I n e → ∃ e', whileL t b fu e = some (.nx e') ∧ P e' := by
  intro n
  induction n using Nat.strongRecOn with
  | _ n ih =>
    intro fu e hf hi
    cases fu with
    | zero => omega
    | succ fu =>
      rcases hs n e hi with ⟨e1, h1, h2⟩ | ⟨e1, e2, m, h1, h2, h3, h4⟩
      · exact ⟨e1, by simp only [whileL, h1], h2⟩
      · obtain ⟨e', h5, h6⟩ := ih m h3 fu e2 (by omega) h4
        refine ⟨e', ?_, h6⟩
        simp only [whileL, h1]
        rcases h2 with h2 | h2 <;> simp only [h2] <;> exact h5
theorem sWhile_run {t : En → Option (Bool × En)} {b : Bk} (I : Nat → En → Prop) (P : En → Prop) {n : Nat} {e : En} (hn : n < fuel) (hi : I n e) (hs : ∀ n e, I n e → (∃ e1, t e = some (false, e1) ∧ P e1) ∨ ∃ e1 e2 m, t e = some (true, e1) ∧ (b e1 = some (.nx e2) ∨ b e1 = some (.ct e2)) ∧ m < n ∧ I m e2) :
    ∃ e', sWhile t b e = some (.nx e') ∧ P e' := whileL_run I P hs n fuel e hn hi
/-! ### comprehensions -/
theorem compQ_ok {α : Type} {vs : List Nat} {env : En} {t : DV → En → Option En} {c : En → Option Bool} {el : En → Option DV} (f : α → DV) (p : α → Bool) (g : α → PV) : ∀ {xs : List α}, (∀ x ∈ xs, ∃ e1, t (f x) (wipeE env vs) = some e1 ∧ e1.length = env.length ∧ c e1 = some (p x) ∧ (p x = true → el e1 = some (.p (g x)))) →
    compQ vs env t c el (xs.map f) = some (((xs.filter p).map g).map DV.p)
  | [], _ => rfl
  | x :: xs, h => by
    obtain ⟨e1, h1, h2, h3, h4⟩ := h x (by simp)
    have ih := compQ_ok (vs := vs) (env := env) (t := t) (c := c) (el := el) f p g (xs := xs) fun y hy => h y (by simp [hy])
    simp only [List.map_cons, compQ, h1, h2, h3, if_true]
    cases hp : p x with
    | true => simp [h4 hp, DV.owned, ih, hp]
    | false => simp [ih, hp]
theorem qCompL_ok {α : Type} {vs : List Nat} {env : En} {q : En → Option (List DV)} {t : DV → En → Option En} {c : En → Option Bool} {el : En → Option DV} (f : α → DV) (p : α → Bool) (g : α → PV) {xs : List α} (hq : q env = some (xs.map f)) (hl : xs.length ≤ sizeLine)
    (h : ∀ x ∈ xs, ∃ e1, t (f x) (wipeE (lendE env) vs) = some e1 ∧ e1.length = env.length ∧ c e1 = some (p x) ∧ (p x = true → el e1 = some (.p (g x)))) : qCompL vs q t c el env = some (.lst ((xs.filter p).map g)) := by
  unfold qCompL
  rw [hq]
  simp only [Option.bind_some, List.length_map, hl, if_true]
  rw [compQ_ok f p g (by intro x hx; obtain ⟨e1, h1, h2, h3⟩ := h x hx; exact ⟨e1, h1, by rw [h2]; simp [lendE], h3⟩)]
  rw [Option.map_some, mkC_pure]
/-- without a test -/
theorem qCompL_all {α : Type} {vs : List Nat} {env : En} {q : En → Option (List DV)} {t : DV → En → Option En} {el : En → Option DV} (f : α → DV) (g : α → PV) {xs : List α} (hq : q env = some (xs.map f)) (hl : xs.length ≤ sizeLine)
    (h : ∀ x ∈ xs, ∃ e1, t (f x) (wipeE (lendE env) vs) = some e1 ∧ e1.length = env.length ∧ el e1 = some (.p (g x))) : qCompL vs q t cYesQ el env = some (.lst (xs.map g)) := by
  have := qCompL_ok (vs := vs) (env := env) (q := q) (t := t) (c := cYesQ) (el := el) f (fun _ => true) g hq hl fun x hx => by
    obtain ⟨e1, h1, h2, h3⟩ := h x hx
    exact ⟨e1, h1, h2, rfl, fun _ => h3⟩
  rw [this, List.filter_eq_self.mpr (fun _ _ => rfl)]
end Sm

set_option Elab.async false
set_option linter.all false
set_option maxRecDepth 100000
/-! S15: the operators by equations. -/
namespace Sm
open PySem PySem.Spec PyProof.Rows L2
theorem dIx_tup (xs : List PV) (k : Int) : dIx (.p (.tup xs)) (.p (.int k)) = (atI xs k).map DV.p := rfl
theorem dIx_lst (xs : List PV) (k : Int) : dIx (.lst xs) (.p (.int k)) = (atI xs k).map DV.p := rfl
theorem dIx_ro (xs : List PV) (k : Int) : dIx (.ro xs) (.p (.int k)) = (atI xs k).map DV.p := rfl
theorem dIx_fz (xs : List PV) (k : Int) : dIx (.fz xs) (.p (.int k)) = (atI xs k).map DV.p := rfl
theorem dIx_ml (xs : List DV) (k : Int) : dIx (.ml xs) (.p (.int k)) = atI xs k := rfl
theorem dIx_mr (xs : List DV) (k : Int) : dIx (.mr xs) (.p (.int k)) = atI xs k := rfl
theorem dIx_mt (xs : List DV) (k : Int) : dIx (.mt xs) (.p (.int k)) = atI xs k := rfl
theorem dAdd_int (i j : Int) : dAdd (.p (.int i)) (.p (.int j)) = some (.p (.int (i + j))) := rfl
theorem dSub_int (i j : Int) : dSub (.p (.int i)) (.p (.int j)) = some (.p (.int (i - j))) := rfl
theorem dNeg_int (i : Int) : dNeg (.p (.int i)) = some (.p (.int (-i))) := rfl
theorem dLt_int (i j : Int) : dLt (.p (.int i)) (.p (.int j)) = some (.p (.bl (decide (i < j)))) := rfl
theorem dLe_int (i j : Int) : dLe (.p (.int i)) (.p (.int j)) = some (.p (.bl (decide (i ≤ j)))) := rfl
theorem dGt_int (i j : Int) : dGt (.p (.int i)) (.p (.int j)) = some (.p (.bl (decide (j < i)))) := rfl
theorem dGe_int (i j : Int) : dGe (.p (.int i)) (.p (.int j)) = some (.p (.bl (decide (j ≤ i)))) := rfl
theorem dMod_int {i j : Int} (h : 0 < j) : dMod (.p (.int i)) (.p (.int j)) = some (.p (.int (i % j))) := by simp [dMod, dII, h]
theorem dFdiv_int {i j : Int} (h : 0 < j) (h2 : j.natAbs.log2 < 9000) : dFdiv (.p (.int i)) (.p (.int j)) = some (.p (.int (i / j))) := by simp [dFdiv, dII, h, h2]
theorem rgOk_of {b : Int} (h0 : 0 ≤ b) (h : b ≤ 16777215) : rgOk 0 b = true := by
  unfold rgOk
  rw [lg_of (by decide) (by decide), lg_of (by omega) (by decide), lg_of (by omega) (by decide)]
  rfl
theorem rngOk_of {n : Int} (h0 : -1000000000000 ≤ n) (h : n ≤ 1000000000000) : rngOk n = true := lg_of (by omega) (by decide)
theorem mulOk_l {i j : Int} (a : -18446744073709551616 < i) (b : i < 18446744073709551616) : mulOk i j = true := by simp [mulOk, lg_of (k := 64) (i := i) (by omega) (by decide)]
theorem mulOk_r {i j : Int} (a : -18446744073709551616 < j) (b : j < 18446744073709551616) : mulOk i j = true := by simp [mulOk, lg_of (k := 64) (i := j) (by omega) (by decide)]
theorem mulOk_b {i j : Int} (h : i.natAbs.log2 + j.natAbs.log2 < 1000000) : mulOk i j = true := by simp [mulOk, h]
theorem dMul_int {i j : Int} (h : mulOk i j = true) : dMul (.p (.int i)) (.p (.int j)) = some (.p (.int (i * j))) := by simp [dMul, dII, dMulI, h]
theorem dPow_int {i j : Int} (h : 0 ≤ j) (h2 : (Builtin.Int.intBits i : Int) * j ≤ 134217728) : dPow (.p (.int i)) (.p (.int j)) = some (.p (.int (i ^ j.toNat))) := by simp [dPow, dII, h, h2]
theorem dInt_int (i : Int) : dInt [.p (.int i)] = some (.p (.int i)) := rfl
theorem dInt_bl (b : Bool) : dInt [.p (.bl b)] = some (.p (.int (if b then 1 else 0))) := by cases b <;> rfl
theorem dLen_tup (xs : List PV) : dLen [.p (.tup xs)] = some (.p (.int xs.length)) := rfl
theorem dLen_lst (xs : List PV) : dLen [.lst xs] = some (.p (.int xs.length)) := rfl
theorem dLen_ro (xs : List PV) : dLen [.ro xs] = some (.p (.int xs.length)) := rfl
theorem dLen_fz (xs : List PV) : dLen [.fz xs] = some (.p (.int xs.length)) := rfl
theorem dSl_tup (xs : List PV) (a b : Option Int) : dSl (.p (.tup xs)) a b = some (.p (.tup (cutL xs a b))) := rfl
theorem dSl_lst (xs : List PV) (a b : Option Int) : dSl (.lst xs) a b = some (.lst (cutL xs a b)) := rfl
theorem dSl_ro (xs : List PV) (a b : Option Int) : dSl (.ro xs) a b = some (.lst (cutL xs a b)) := rfl
theorem dSl_fz (xs : List PV) (a b : Option Int) : dSl (.fz xs) a b = some (.lst (cutL xs a b)) := rfl
theorem dMin2_int (i j : Int) : dMin2 [.p (.int i), .p (.int j)] = some (.p (.int (min i j))) := by
  show some (DV.p (.int (if j < i then j else i))) = _
  congr 3; split <;> omega
theorem dMax2_int (i j : Int) : dMax2 [.p (.int i), .p (.int j)] = some (.p (.int (max i j))) := by
  show some (DV.p (.int (if j > i then j else i))) = _
  congr 3; split <;> omega
theorem dAbs_int (i : Int) : dAbs [.p (.int i)] = some (.p (.int (i.natAbs : Int))) := by
  show some (DV.p (.int (if i < 0 then -i else i))) = _
  congr 3; split <;> omega
theorem dSum_lst (ns : List Int) : dSum [.lst (ns.map PV.int)] = some (.p (.int ns.sum)) := by simp [dSum, DV.seq]
theorem dSum_ro (ns : List Int) : dSum [.ro (ns.map PV.int)] = some (.p (.int ns.sum)) := by simp [dSum, DV.seq]
theorem dAll_lst (bs : List Bool) : dAll [.lst (bs.map PV.bl)] = some (.p (.bl (bs.all id))) := by simp [dAll]
theorem dAny_lst (bs : List Bool) : dAny [.lst (bs.map PV.bl)] = some (.p (.bl (bs.any id))) := by simp [dAny]
theorem dTuple_lst (xs : List PV) : dTuple [.lst xs] = some (.p (.tup xs)) := rfl
theorem dTuple_ro (xs : List PV) : dTuple [.ro xs] = some (.p (.tup xs)) := rfl
theorem dTuple_tup (xs : List PV) : dTuple [.p (.tup xs)] = some (.p (.tup xs)) := rfl
theorem dList_lst (xs : List PV) : dList [.lst xs] = some (.lst xs) := rfl
theorem dList_ro (xs : List PV) : dList [.ro xs] = some (.lst xs) := rfl
theorem dList_tup (xs : List PV) : dList [.p (.tup xs)] = some (.lst xs) := rfl
theorem add_tup (xs ys : List PV) : dAdd (.p (.tup xs)) (.p (.tup ys)) = if xs.length + ys.length ≤ sizeLine then some (.p (.tup (xs ++ ys))) else none := by first | rfl | simp [dAdd]
theorem le_size {n : Nat} (h : n ≤ 1000000) : n ≤ sizeLine := by rw [sizeLine_eq]; omega
theorem log2_le {n k : Nat} (h : n < 2 ^ (k + 1)) : n.log2 ≤ k := by
  by_cases h0 : n = 0
  · subst h0; simp
  · have := (Nat.log2_lt h0).mpr h
    omega
theorem log2_small {i : Int} (h : -18446744073709551616 < i) (h2 : i < 18446744073709551616) : i.natAbs.log2 < 9000 := by
  have : i.natAbs.log2 ≤ 63 := log2_le (by omega)
  omega
theorem bits_le {i : Int} {k : Nat} (h : i.natAbs < 2 ^ (k + 1)) : Builtin.Int.intBits i ≤ k + 1 := by
  unfold Builtin.Int.intBits
  split
  · omega
  · have := log2_le h
    omega
/-! ### step by step -/
theorem seq_nx {b c : Bk} {env e : En} (h : b env = some (.nx e)) : sSeq b c env = c e := by unfold sSeq; rw [h]
theorem seq_rt {b c : Bk} {env e : En} {d : DV} (h : b env = some (.rt d e)) : sSeq b c env = some (.rt d e) := by unfold sSeq; rw [h]
theorem seq_ct {b c : Bk} {env e : En} (h : b env = some (.ct e)) : sSeq b c env = some (.ct e) := by unfold sSeq; rw [h]
theorem seq_bk {b c : Bk} {env e : En} (h : b env = some (.bk e)) : sSeq b c env = some (.bk e) := by unfold sSeq; rw [h]
theorem if_t {t : En → Option (Bool × En)} {a b : Bk} {env e : En} (h : t env = some (true, e)) : sIf t a b env = a e := by unfold sIf; rw [h]
theorem if_f {t : En → Option (Bool × En)} {a b : Bk} {env e : En} (h : t env = some (false, e)) : sIf t a b env = b e := by unfold sIf; rw [h]
theorem q_of {q : En → Option DV} {env : En} {d : DV} (h : q env = some d) (ho : d.owned = true) : ofQ q env = some (d, env) := by unfold ofQ; rw [h]; simp [ho]
theorem asg_e {f : En → Option (DV × En)} {i : Nat} {env e : En} {d : DV} (h : f env = some (d, e)) (hi : i < e.length) : sAsg f (gSet i) env = some (.nx (e.set i (some d))) := by simp [sAsg, gSet, h, hi]
theorem asg_q {q : En → Option DV} {i : Nat} {env : En} {d : DV} (h : q env = some d) (ho : d.owned = true) (hi : i < env.length) : sAsg (ofQ q) (gSet i) env = some (.nx (env.set i (some d))) := asg_e (q_of h ho) hi
theorem ret_e {f : En → Option (DV × En)} {env e : En} {d : DV} (h : f env = some (d, e)) : sRet f env = some (.rt d e) := by simp [sRet, h]
theorem ret_q {q : En → Option DV} {env : En} {d : DV} (h : q env = some d) (ho : d.owned = true) : sRet (ofQ q) env = some (.rt d env) := ret_e (q_of h ho)
theorem t_q {q : En → Option DV} {env : En} {b : Bool} (h : q env = some (.p (.bl b))) : tQ q env = some (b, env) := by unfold tQ; rw [h]
theorem op_q {g : DV → DV → Option DV} {a b : En → Option DV} {env : En} {x y : DV} (h : a env = some x) (h' : b env = some y) : qOp g a b env = g x y := by simp [qOp, h, h']
theorem mk_q {g : List DV → Option DV} {q : En → Option (List DV)} {env : En} {ds : List DV} (h : q env = some ds) : qMk g q env = g ds := by simp [qMk, h]
theorem a1_q {a : En → Option DV} {env : En} {x : DV} (h : a env = some x) : aCons a aNil env = some [x] := by simp [aCons, aNil, h]
theorem a2_q {a b : En → Option DV} {env : En} {x y : DV} (h : a env = some x) (h' : b env = some y) : aCons a (aCons b aNil) env = some [x, y] := by simp [aCons, aNil, h, h']
theorem call_q {m : Mir} {q : En → Option (List DV)} {env : En} {ds ds' : List DV} {d : DV} (h : q env = some ds) (h' : m ds = some (d, ds')) : qCall m q env = some d := by simp [qCall, h, h']
theorem run_rt {ms : List Bool} {N : Nat} {b : Bk} {ds ds' : List DV} {d : DV} {e : En} (hm : modeOk ms ds = true) (hb : b (startE ds N) = some (.rt d e)) (hf : fin ms ds e = some ds') : runF ms N b ds = some (d, ds') := by simp [runF, hm, hb, hf]
theorem run_nx {ms : List Bool} {N : Nat} {b : Bk} {ds ds' : List DV} {e : En} (hm : modeOk ms ds = true) (hb : b (startE ds N) = some (.nx e)) (hf : fin ms ds e = some ds') : runF ms N b ds = some (.p .non, ds') := by simp [runF, hm, hb, hf]
theorem for_e {f : En → Option (List DV × En)} {t : DV → En → Option En} {b : Bk} {env e : En} {ds : List DV} (h : f env = some (ds, e)) : sFor f t b env = forL t b ds e := by simp [sFor, h]
end Sm

set_option Elab.async false
set_option linter.all false
set_option maxRecDepth 100000
/-! S16: quiet tests by and, or, not; chains. -/
namespace Sm
open PySem PySem.Spec PyProof.Rows L2
def rTQ (K : PySem.W.Frag) (t : En → Option Bool) : TT := fun σ H Q => ∃ env F B b, StR K H σ env F B ∧ Disj F B ∧ t env = some b ∧ ∀ H', Same H H' → Q b H'
structure SQW (X : Cx) (e : Expr) (t : En → Option Bool) : Prop where
  pw : PW X e (rTQ X.K t)
def bNot (t : En → Option Bool) : En → Option Bool := fun env => (t env).map fun b => !b
def bAnd (t u : En → Option Bool) : En → Option Bool := fun env => match t env with
  | some true => u env
  | some false => some false
  | none => none
def bOr (t u : En → Option Bool) : En → Option Bool := fun env => match t env with
  | some true => some true
  | some false => u env
  | none => none
section
variable {X : Cx} {e a b c : Expr} {rest : List Expr} {pos : Pos}
theorem SQT.to {t : En → Option Bool} (h : SQT X e t) : PT X e (rTQ X.K t) := h.pt
theorem sqt_not {t : En → Option Bool} (h : SQT X a t) : SQT X (.UnaryOp .Not a pos) (bNot t) := by
  refine ⟨pt_imp (pt_not h.pt) ?_⟩
  rintro σ H Q ⟨env, F, B, b, hS, dj, ht, k⟩
  obtain ⟨b1, h1, rfl⟩ := Option.map_eq_some_iff.mp ht
  exact ⟨env, F, B, b1, hS, dj, h1, k⟩
theorem rtq_and {t u : En → Option Bool} {σ : Sg} {H : Hp} {Q : Bool → Hp → Prop} (h : rTQ X.K (bAnd t u) σ H Q) : tAnd (rTQ X.K t) (rTQ X.K u) σ H Q := by
  obtain ⟨env, F, B, b, hS, dj, ht, k⟩ := h
  unfold bAnd at ht
  split at ht
  · rename_i h1
    refine ⟨env, F, B, true, hS, dj, h1, fun H1 sm => ?_⟩
    refine iteT ?_
    exact ⟨env, F, B, b, hS.same sm, dj, ht, fun H2 sm2 => k H2 (sm.trans sm2)⟩
  · rename_i h1
    cases ht
    refine ⟨env, F, B, false, hS, dj, h1, fun H1 sm => ?_⟩
    refine iteF ?_
    exact k H1 sm
  · cases ht
theorem rtq_or {t u : En → Option Bool} {σ : Sg} {H : Hp} {Q : Bool → Hp → Prop} (h : rTQ X.K (bOr t u) σ H Q) : tOr (rTQ X.K t) (rTQ X.K u) σ H Q := by
  obtain ⟨env, F, B, b, hS, dj, ht, k⟩ := h
  unfold bOr at ht
  split at ht
  · rename_i h1
    cases ht
    refine ⟨env, F, B, true, hS, dj, h1, fun H1 sm => ?_⟩
    refine iteT ?_
    exact k H1 sm
  · rename_i h1
    refine ⟨env, F, B, false, hS, dj, h1, fun H1 sm => ?_⟩
    refine iteF ?_
    exact ⟨env, F, B, b, hS.same sm, dj, ht, fun H2 sm2 => k H2 (sm.trans sm2)⟩
  · cases ht
theorem sqw_and1 {t : En → Option Bool} (h : SQT X a t) : SQW X (.BoolOp .And [a] pos) t := ⟨pw_and1 h.to⟩
theorem sqw_or1 {t : En → Option Bool} (h : SQT X a t) : SQW X (.BoolOp .Or [a] pos) t := ⟨pw_or1 h.to⟩
theorem sqw_and {t u : En → Option Bool} (h : SQT X a t) (h' : SQW X (.BoolOp .And (b :: rest) pos) u) : SQW X (.BoolOp .And (a :: b :: rest) pos) (bAnd t u) := ⟨pw_imp (pw_and h.to h'.pw) fun _ _ _ => rtq_and⟩
theorem sqw_or {t u : En → Option Bool} (h : SQT X a t) (h' : SQW X (.BoolOp .Or (b :: rest) pos) u) : SQW X (.BoolOp .Or (a :: b :: rest) pos) (bOr t u) := ⟨pw_imp (pw_or h.to h'.pw) fun _ _ _ => rtq_or⟩
theorem sqt_w {t : En → Option Bool} (h : SQW X e t) : SQT X e t := ⟨h.pw.pt⟩
theorem sqt_chain {op op' : CmpOp} {g g' : DV → DV → Option DV} {qa qb qc : En → Option DV} (h : SOp X (compareOp op) g) (h' : SOp X (compareOp op') g') (ha : SQ X a qa) (hb : SQ X b qb) (hc : SQ X c qc)
    (hm : lastMarks [op, op'] [b, c] = false := by with_unfolding_all rfl) : SQT X (.Compare a [op, op'] [b, c] pos) (bQ (qChain g g' qa qb qc)) := by
  refine ⟨pt_imp (pt_chain h h' ha.pe hb.pe hc.pe hm) ?_⟩
  rintro σ H Q z
  have z := bq_q z
  obtain ⟨env, F, B, d, hS, dj, hq, k⟩ := z
  obtain ⟨d1, h1, hq⟩ := Option.bind_eq_some_iff.mp hq
  obtain ⟨d2, h2, hq⟩ := Option.bind_eq_some_iff.mp hq
  obtain ⟨d3, h3, hq⟩ := Option.bind_eq_some_iff.mp hq
  refine ⟨env, F, B, d1, hS, dj, h1, fun v H1 G1 C1 sm1 r1 n1 c1 => ?_⟩
  refine ⟨env, F, B, d2, hS.same sm1, dj, h2, fun u H2 G2 C2 sm2 r2 n2 c2 => ?_⟩
  refine ⟨d1, G1, C1, d2, G2, C2, d3, r1.same sm2, r2, h3, fun w H3 G3 sm3 r3 n3 => ?_⟩
  split at hq
  · obtain ⟨rp, _, _⟩ := r3.pure
    cases rp
    refine ⟨true, rfl, ?_⟩
    refine iteT ?_
    obtain ⟨d4, h4, hq⟩ := Option.bind_eq_some_iff.mp hq
    have s3 : Same H H3 := (sm1.trans sm2).trans sm3
    refine ⟨env, F, B, d4, hS.same s3, dj, h4, fun w4 H4 G4 C4 sm4 r4 n4 c4 => ?_⟩
    refine ⟨d2, G2, C2, d4, G4, C4, d, r2.same (sm3.trans sm4), r4, hq, fun w5 H5 G5 sm5 r5 n5 => ?_⟩
    exact k w5 H5 G5 [] ((s3.trans sm4).trans sm5) r5 (fun a q => (s3.trans sm4).free (n5 a q)) fun _ q => nomatch q
  · obtain ⟨rp, _, _⟩ := r3.pure
    cases rp
    refine ⟨false, rfl, ?_⟩
    refine iteF ?_
    cases hq
    exact k _ H3 [] [] ((sm1.trans sm2).trans sm3) (.p (.bl false)) (fun _ q => nomatch q) fun _ q => nomatch q
  · cases hq
end
end Sm

set_option Elab.async false
set_option linter.all false
set_option maxRecDepth 100000
/-! S17: zip, enumerate. -/
namespace Sm
open PySem PySem.Spec PyProof.Rows L2 RZ
def pairD : DV → DV → DV := fun x y => match x, y with
  | .p a, .p b => .p (.tup [a, b])
  | x, y => .mt [x, y]
theorem pair_ok {K : PySem.W.Frag} {H : Hp} {x y : V} {d1 d2 : DV} {C1 C2 : Fp} {T : Addr} (hT : H T = none) (r1 : Rp K H x d1 [] C1) (r2 : Rp K H y d2 [] C2) : ∃ C, Rp K (upd H T (.tup [x, y])) (.ref T) (pairD d1 d2) [] C ∧ ∀ a ∈ C, a ∈ C1 ∨ a ∈ C2 := by
  have sm := same_upd (o := .tup [x, y]) hT
  have all : RpAll K H [x, y] [d1, d2] [] (C1 ++ (C2 ++ [])) := .cons (F := []) (G := []) r1 (.cons (F := []) (G := []) r2 .nil fun _ q => nomatch q) fun _ q => nomatch q
  have gen : Rp K (upd H T (.tup [x, y])) (.ref T) (.mt [d1, d2]) [] (C1 ++ (C2 ++ [])) := .mt (.inl upd_same) (all.same sm)
  have sub : ∀ a ∈ C1 ++ (C2 ++ []), a ∈ C1 ∨ a ∈ C2 := fun a q => by simpa using q
  cases d1 with
  | p a =>
    cases d2 with
    | p b =>
      obtain ⟨p1, _, _⟩ := r1.pure
      obtain ⟨p2, _, _⟩ := r2.pure
      exact ⟨[], .p (.tup (.inl upd_same) (.cons (p1.ext sm.tups) (.cons (p2.ext sm.tups) .nil))), fun _ q => nomatch q⟩
    | _ => exact ⟨_, gen, sub⟩
  | _ => exact ⟨_, gen, sub⟩
def DV.itL : DV → Option (List DV)
  | .lst xs => some (xs.map .p)
  | .ro xs => some (xs.map .p)
  | .fz xs => some (xs.map .p)
  | .mr ds => some ds
  | _ => none
def DV.itT : DV → Option (List DV)
  | .p (.tup xs) => some (xs.map .p)
  | _ => none
theorem src_l {K : PySem.W.Frag} {H : Hp} {v : V} {d : DV} {xs : List DV} {G C : Fp} (r : Rp K H v d G C) (e : d.itL = some xs) : ∃ (a : Addr) (vs : List V) (Cx Ci : Fp), v = .ref a ∧ (∀ H1, (∀ x ∈ Cx, H1 x = H x) → SqL K H1 a vs) ∧ (∀ x ∈ Cx, (∃ o, H x = some o) ∧ (x ∈ G ∨ x ∈ C)) ∧ RpAll K H vs xs [] Ci ∧ ∀ x ∈ Ci, x ∈ C := by
  cases r with
  | @lst a0 ws ys h r => cases e; exact ⟨a0, ws, [a0], [], rfl, fun H1 q => .of ((q a0 (by simp)).trans h), fun x q => by simp at q; subst q; exact ⟨⟨_, h⟩, .inl (by simp)⟩, .of_pure r, fun _ q => nomatch q⟩
  | @ro a0 ws ys h r => cases e; exact ⟨a0, ws, [a0], [], rfl, fun H1 q => .of ((q a0 (by simp)).trans h), fun x q => by simp at q; subst q; exact ⟨⟨_, h⟩, .inr (by simp)⟩, .of_pure r, fun _ q => nomatch q⟩
  | @fz a0 o ws ys h r => cases e; exact ⟨a0, ws, [a0], [], rfl, fun H1 q => .inl (.inr ⟨_, (q a0 (by simp)).trans h⟩), fun x q => by simp at q; subst q; exact ⟨⟨_, h⟩, .inr (by simp)⟩, .of_pure r, fun _ q => nomatch q⟩
  | @fk a0 ws ys h r => cases e; exact ⟨a0, ws, [], [], rfl, fun H1 _ => h.seq H1, (fun _ q => nomatch q), .of_pure r, (fun _ q => nomatch q)⟩
  | @mr a0 ws ys B0 h r => cases e; exact ⟨a0, ws, [a0], B0, rfl, fun H1 q => .of ((q a0 (by simp)).trans h), fun x q => by simp at q; subst q; exact ⟨⟨_, h⟩, .inr (by simp)⟩, r, fun a q => List.mem_cons_of_mem _ q⟩
  | _ => cases e
theorem src_t {K : PySem.W.Frag} {H : Hp} {v : V} {d : DV} {xs : List DV} {G C : Fp} (r : Rp K H v d G C) (e : d.itT = some xs) : ∃ (a : Addr) (vs : List V), v = .ref a ∧ TupAt K H a vs ∧ RpAll K H vs xs [] [] := by
  cases r with
  | p r =>
    cases r with
    | @tup a0 ws ys t r => cases e; exact ⟨_, _, rfl, t, .of_pure r⟩
    | _ => cases e
  | _ => cases e
def zipD : List DV → List DV → List DV
  | x :: xs, y :: ys => pairD x y :: zipD xs ys
  | _, _ => []
theorem zipD_get : ∀ {xs ys : List DV} {i : Nat} {d : DV}, (zipD xs ys)[i]? = some d → ∃ x y, xs[i]? = some x ∧ ys[i]? = some y ∧ d = pairD x y
  | x :: xs, y :: ys, 0, d, h => by simp [zipD] at h; exact ⟨x, y, rfl, rfl, h.symm⟩
  | x :: xs, y :: ys, i + 1, d, h => by
    obtain ⟨a, b, h1, h2, h3⟩ := zipD_get (xs := xs) (ys := ys) (i := i) (by simpa [zipD] using h)
    exact ⟨a, b, by simpa using h1, by simpa using h2, h3⟩
  | [], _, _, _, h => by simp [zipD] at h
  | _ :: _, [], _, _, h => by simp [zipD] at h
theorem zipD_length : ∀ {xs ys : List DV}, (zipD xs ys).length = min xs.length ys.length
  | x :: xs, y :: ys => by simp [zipD, zipD_length (xs := xs) (ys := ys)]
  | [], _ => by simp [zipD]
  | _ :: _, [] => by simp [zipD]
theorem itr_zip {K : PySem.W.Frag} {H0 : Hp} {a b : Addr} {vs ws : List V} {xs ys : List DV} {C1 C2 C D1 D2 Ci : Fp} (hl : ∀ H1, (∀ x ∈ C1, H1 x = H0 x) → SqL K H1 a vs) (hl2 : ∀ H1, (∀ x ∈ C2, H1 x = H0 x) → SqL K H1 b ws)
    (r : RpAll K H0 vs xs [] D1) (r2 : RpAll K H0 ws ys [] D2) (s1 : ∀ x ∈ C1, x ∈ C) (s2 : ∀ x ∈ C2, x ∈ C) (t1 : ∀ x ∈ D1, x ∈ Ci) (t2 : ∀ x ∈ D2, x ∈ Ci) : ItR K H0 (Itz K a b) (zipD xs ys) C Ci := by
  intro i H k hC hCi
  have q1 : SqL K H a vs := hl H fun x q => hC x (s1 x q)
  have q2 : SqL K H b ws := hl2 H fun x q => hC x (s2 x q)
  refine ⟨fun hi => ⟨vs, ws, q1, q2, by rw [zipD_length] at hi; rw [r.length, r2.length]; omega⟩, fun d hd => ?_⟩
  obtain ⟨d1, d2, h1, h2, rfl⟩ := zipD_get hd
  obtain ⟨v, G1, B1, e1, p1, u1, w1⟩ := r.get h1
  obtain ⟨w, G2, B2, e2, p2, u2, w2⟩ := r2.get h2
  refine ⟨⟨vs, ws, v, w, q1, q2, e1, e2⟩, fun x H' hy => ?_⟩
  obtain ⟨T, x1, x2, rfl, hT, rfl, y1, y2⟩ := hy
  have ex : x1 = v := Option.some.inj ((y1 vs q1).symm.trans e1)
  have ey : x2 = w := Option.some.inj ((y2 ws q2).symm.trans e2)
  subst ex ey
  rw [nil_of_sub u1] at p1
  rw [nil_of_sub u2] at p2
  have p1' : Rp K H x1 d1 [] B1 := p1.ext k (fun _ q => nomatch q) fun a q => hCi a (t1 a (w1 a q))
  have p2' : Rp K H x2 d2 [] B2 := p2.ext k (fun _ q => nomatch q) fun a q => hCi a (t2 a (w2 a q))
  obtain ⟨C', rp, sub⟩ := pair_ok hT p1' p2'
  exact ⟨same_upd hT, C', rp, fun a q => (sub a q).elim (fun z => t1 a (w1 a z)) fun z => t2 a (w2 a z)⟩
theorem itr_zipT {K : PySem.W.Frag} {H0 : Hp} {a b : Addr} {vs ws : List V} {xs ys : List DV} {C Ci : Fp} (hl : TupAt K H0 a vs) (hl2 : TupAt K H0 b ws) (r : RpAll K H0 vs xs [] []) (r2 : RpAll K H0 ws ys [] []) : ItR K H0 (ItzT K a b) (zipD xs ys) C Ci := by
  intro i H k hC hCi
  have q1 : SqT K H a vs := (hl.ext k).seq
  have q2 : SqT K H b ws := (hl2.ext k).seq
  refine ⟨fun hi => ⟨vs, ws, q1, q2, by rw [zipD_length] at hi; rw [r.length, r2.length]; omega⟩, fun d hd => ?_⟩
  obtain ⟨d1, d2, h1, h2, rfl⟩ := zipD_get hd
  obtain ⟨v, G1, B1, e1, p1, u1, w1⟩ := r.get h1
  obtain ⟨w, G2, B2, e2, p2, u2, w2⟩ := r2.get h2
  refine ⟨⟨vs, ws, v, w, q1, q2, e1, e2⟩, fun x H' hy => ?_⟩
  obtain ⟨T, x1, x2, rfl, hT, rfl, y1, y2⟩ := hy
  have ex : x1 = v := Option.some.inj ((y1 vs q1).symm.trans e1)
  have ey : x2 = w := Option.some.inj ((y2 ws q2).symm.trans e2)
  subst ex ey
  rw [nil_of_sub u1, nil_of_sub w1] at p1
  rw [nil_of_sub u2, nil_of_sub w2] at p2
  obtain ⟨C', rp, sub⟩ := pair_ok hT (p1.ext k (fun _ q => nomatch q) fun _ q => nomatch q) (p2.ext k (fun _ q => nomatch q) fun _ q => nomatch q)
  exact ⟨same_upd hT, C', rp, fun a q => (sub a q).elim (fun z => nomatch z) fun z => nomatch z⟩
def fZipQ (q : En → Option (List DV)) : En → Option (List DV) := fun env => (q env).bind fun ds => match ds with
  | [d1, d2] => match d1.itL, d2.itL with
    | some xs, some ys => some (zipD xs ys)
    | _, _ => match d1.itT, d2.itT with
      | some xs, some ys => some (zipD xs ys)
      | _, _ => none
  | _ => none
section
variable {X : Cx} {e e2 : Expr} {pos : Pos}
theorem siq_zip {p tpos : Pos} {elts : List Expr} {kk : Nat} {q : En → Option (List DV)} (ha : SA X [e, e2] q) (hm : X.mg "zip" = none) (hg : Gl X "zip" := by rfl)
    (hs : starEach [e, e2] X.env = (false, eval e X.env) :: starEach [e2] X.env := by rfl) (hpl : (backTo pos (starEach [e2] X.env)).any (·.1) = false := by rfl) : SIq X (.Tuple elts kk tpos) (.Call (.Name "zip" p) [e, e2] [] pos) (fZipQ q) := by
  refine ⟨pi_imp (pi_zipA hg hm ha.pa hs hpl) ?_⟩
  rintro σ H R ⟨env, F, B, ds, hS, dj, hf, k⟩
  obtain ⟨as, h1, h2⟩ := Option.bind_eq_some_iff.mp hf
  refine ⟨env, F, B, as, hS, dj, h1, fun vs H' G C sm r n c => ?_⟩
  split at h2
  · rename_i d1 d2
    cases r with
    | @cons v _ _ _ F1 F2 B1 B2 r1 rr dd =>
      cases rr with
      | @cons w _ _ _ F3 F4 B3 B4 r2 r3 dd2 =>
        cases r3
        split at h2
        · rename_i xs ys hx hy
          cases h2
          obtain ⟨a, vs, Cx, Ci, rfl, l1, l2, l3, l4⟩ := src_l r1 hx
          obtain ⟨b, ws, Cy, Cj, rfl, m1, m2, m3, m4⟩ := src_l r2 hy
          refine ⟨a, b, vs, ws, rfl, .inl ⟨l1 H' fun _ _ => rfl, m1 H' fun _ _ => rfl, ?_⟩⟩
          refine k _ H' (Cx ++ Cy) (Ci ++ Cj) sm (fun x q => (List.mem_append.mp q).elim (fun z => (l2 x z).1) fun z => (m2 x z).1) (fun x q => c x ?_) (itr_zip l1 m1 l3 m3 (fun x q => List.mem_append_left _ q) (fun x q => List.mem_append_right _ q) (fun x q => List.mem_append_left _ q) fun x q => List.mem_append_right _ q)
          rcases List.mem_append.mp q with q | q
          · exact List.mem_append_left _ (l4 x q)
          · exact List.mem_append_right _ (List.mem_append_left _ (m4 x q))
        · split at h2
          · rename_i xs ys hx hy
            cases h2
            obtain ⟨a, vs, rfl, l1, l3⟩ := src_t r1 hx
            obtain ⟨b, ws, rfl, m1, m3⟩ := src_t r2 hy
            exact ⟨a, b, vs, ws, rfl, .inr ⟨l1.seq, m1.seq, k _ H' [] [] sm (fun _ q => nomatch q) (fun _ q => nomatch q) (itr_zipT l1 m1 l3 m3)⟩⟩
          · cases h2
  · cases h2
end
end Sm

set_option Elab.async false
set_option linter.all false
set_option maxRecDepth 100000
/-! S18: ranges with a step. -/
namespace Sm
open PySem PySem.Spec PyProof.Rows L2
theorem small_of {a b c : Int} (ha : a.natAbs < 2 ^ 40) (hb : b.natAbs < 2 ^ 40) (hc : c ≠ 0) (hc2 : c.natAbs < 2 ^ 29) : Builtin.Range.small a b c = true := by
  have hs : 0 ≤ Builtin.Range.rangeSize a b c ∧ Builtin.Range.rangeSize a b c < 2 ^ 42 := by
    unfold Builtin.Range.rangeSize
    split
    · rename_i h
      split
      · have h1 : 0 ≤ (b - a - 1) / c := Int.ediv_nonneg (by omega) (by omega)
        have h2 : (b - a - 1) / c ≤ b - a - 1 := Int.ediv_le_self _ (by omega)
        omega
      · omega
    · split
      · have h1 : 0 ≤ (a - b - 1) / (-c) := Int.ediv_nonneg (by omega) (by omega)
        have h2 : (a - b - 1) / (-c) ≤ a - b - 1 := Int.ediv_le_self _ (by omega)
        omega
      · omega
  unfold Builtin.Range.small
  simp only [Builtin.Range.rangeFitsLong, Bool.and_eq_true, Bool.or_eq_true, decide_eq_true_eq, beq_iff_eq]
  generalize Builtin.Range.rangeSize a b c = r at hs ⊢
  refine ⟨⟨⟨⟨⟨by omega, by omega⟩, by omega, by omega⟩, by omega, by omega⟩, by omega, by omega⟩, .inr ?_⟩
  split <;> (rw [Bool.and_eq_true, decide_eq_true_eq, decide_eq_true_eq]; omega)
/-- range(i, j, c) -/
def rg3 (i j c : Int) : Option (List DV) := if lg 40 i && lg 40 j && lg 29 c && decide (c ≠ 0) then some ((List.range (Builtin.Range.rangeSize i j c).toNat).map fun k => DV.p (.int (i + (k : Nat) * c))) else none
theorem rg3_ok {i j c : Int} {ds : List DV} (h : rg3 i j c = some ds) : RgC i j c (Builtin.Range.rangeSize i j c).toNat ∧ ds = (List.range (Builtin.Range.rangeSize i j c).toNat).map fun k => DV.p (.int (i + (k : Nat) * c)) := by
  unfold rg3 at h
  split at h
  · rename_i hc
    cases h
    simp only [Bool.and_eq_true, decide_eq_true_eq] at hc
    obtain ⟨⟨⟨h1, h2⟩, h3⟩, h4⟩ := hc
    have h1 := lg_lt h1 (by decide)
    have h2 := lg_lt h2 (by decide)
    have h3 := lg_lt h3 (by decide)
    exact ⟨⟨h4, by omega, small_of h1 h2 h4 h3, rangeSize_toNat i j c⟩, rfl⟩
  · cases h
theorem itr_rng3 {K : PySem.W.Frag} {H0 : Hp} (i c : Int) (n : Nat) : ItR K H0 (Itc i c n) ((List.range n).map fun k => DV.p (.int (i + (k : Nat) * c))) [] [] := by
  intro m H k _ _
  refine ⟨fun hi => (show n ≤ m by simpa using hi), fun d hd => ?_⟩
  rw [List.getElem?_map] at hd
  obtain ⟨y, h1, rfl⟩ := Option.map_eq_some_iff.mp hd
  obtain ⟨h2, h3⟩ := List.getElem?_eq_some_iff.mp h1
  rw [List.getElem_range] at h3
  subst h3
  refine ⟨(show m < n by simpa using h2), fun x H' hy => ?_⟩
  obtain ⟨rfl, rfl⟩ := hy
  exact ⟨Same.refl _, [], .p (.int _), fun _ q => nomatch q⟩
def fRng3 (f : En → Option (List DV × En)) : En → Option (List DV × En) := fun env => (f env).bind fun x => match x.1 with
  | [.p (.int i), .p (.int j), .p (.int c)] => (rg3 i j c).map fun ds => (ds, x.2)
  | _ => none
def fRng3Q (f : En → Option (List DV)) : En → Option (List DV) := fun env => (f env).bind fun x => match x with
  | [.p (.int i), .p (.int j), .p (.int c)] => rg3 i j c
  | _ => none
theorem three_ints {K : PySem.W.Frag} {H : Hp} {vs : List V} {i j c : Int} {G C : Fp} (r : RpAll K H vs [.p (.int i), .p (.int j), .p (.int c)] G C) : vs = [.int i, .int j, .int c] := by
  cases r with
  | cons a r =>
    cases r with
    | cons b r =>
      cases r with
      | cons d r =>
        cases r
        obtain ⟨a, _, _⟩ := a.pure
        obtain ⟨b, _, _⟩ := b.pure
        obtain ⟨d, _, _⟩ := d.pure
        cases a; cases b; cases d
        rfl
section
variable {X : Cx} {tg a b c : Expr} {pos : Pos}
theorem si_rng3 {p : Pos} {f : En → Option (List DV × En)} (ha : SAE X [a, b, c] f) (hm : X.mg "range" = none) (hg : Gl X "range" := by rfl)
    (hs : starEach [a, b, c] X.env = (false, eval a X.env) :: starEach [b, c] X.env := by rfl) (hpl : (backTo pos (starEach [b, c] X.env)).any (·.1) = false := by rfl) : SI X tg (.Call (.Name "range" p) [a, b, c] [] pos) (fRng3 f) := by
  refine ⟨pi_imp (pi_range3 hg hm ha.pa hs hpl) ?_⟩
  rintro σ H R ⟨env, F, B, ds, env', hS, dj, hf, k⟩
  obtain ⟨⟨as, e1⟩, h1, h2⟩ := Option.bind_eq_some_iff.mp hf
  refine ⟨env, F, B, as, e1, hS, dj, h1, fun vs H' F' B' G k1 S1 n1 b1 r g d1 => ?_⟩
  dsimp only at h2
  split at h2
  · rename_i i j c
    obtain ⟨ds', h3, h4⟩ := Option.map_eq_some_iff.mp h2
    cases h4
    obtain ⟨q1, rfl⟩ := rg3_ok h3
    have e := three_ints r
    subst e
    exact ⟨i, j, c, _, rfl, q1, k _ H' F' B' [] [] k1 S1 n1 b1 (fun _ q => nomatch q) (fun _ q => nomatch q) (itr_rng3 i c _)⟩
  · cases h2
theorem siq_rng3 {p : Pos} {f : En → Option (List DV)} (ha : SA X [a, b, c] f) (hm : X.mg "range" = none) (hg : Gl X "range" := by rfl)
    (hs : starEach [a, b, c] X.env = (false, eval a X.env) :: starEach [b, c] X.env := by rfl) (hpl : (backTo pos (starEach [b, c] X.env)).any (·.1) = false := by rfl) : SIq X tg (.Call (.Name "range" p) [a, b, c] [] pos) (fRng3Q f) := by
  refine ⟨pi_imp (pi_range3 hg hm ha.pa hs hpl) ?_⟩
  rintro σ H R ⟨env, F, B, ds, hS, dj, hf, k⟩
  obtain ⟨as, h1, h2⟩ := Option.bind_eq_some_iff.mp hf
  refine ⟨env, F, B, as, hS, dj, h1, fun vs H' G C sm r n cc => ?_⟩
  split at h2
  · rename_i i j c
    obtain ⟨q1, rfl⟩ := rg3_ok h2
    have e := three_ints r
    subst e
    exact ⟨i, j, c, _, rfl, q1, k _ H' [] [] sm (fun _ q => nomatch q) (fun _ q => nomatch q) (itr_rng3 i c _)⟩
  · cases h2
end
end Sm

set_option Elab.async false
set_option linter.all false
set_option maxRecDepth 100000
/-! S19: for over zip; enumerate. -/
namespace Sm
open PySem PySem.Spec PyProof.Rows L2 RZ
/-- arguments lent from what is lent alone -/
def rRA (K : PySem.W.Frag) (q : En → Option (List DV)) : TA := fun σ H Q => ∃ env F B ds, StR K H σ env F B ∧ Disj F B ∧ q env = some ds ∧
  ∀ vs H' G C, Same H H' → RpAll K H' vs ds G C → (∀ a ∈ G, H a = none) → (∀ a ∈ C, a ∈ B) → Q vs H'
structure SAR (X : Cx) (es : List Expr) (q : En → Option (List DV)) : Prop where
  pa : PA X es (rRA X.K q)
def enumD : Nat → List DV → List DV
  | _, [] => []
  | n, x :: xs => pairD (.p (.int (n : Nat))) x :: enumD (n + 1) xs
theorem enumD_get : ∀ {xs : List DV} {n i : Nat} {d : DV}, (enumD n xs)[i]? = some d → ∃ x, xs[i]? = some x ∧ d = pairD (.p (.int ((n + i : Nat) : Int))) x
  | x :: xs, n, 0, d, h => by simp [enumD] at h; exact ⟨x, rfl, by simpa using h.symm⟩
  | x :: xs, n, i + 1, d, h => by
    obtain ⟨y, h1, h2⟩ := enumD_get (xs := xs) (n := n + 1) (i := i) (by simpa [enumD] using h)
    exact ⟨y, by simpa using h1, by rw [h2, show n + 1 + i = n + (i + 1) by omega]⟩
  | [], _, _, _, h => by simp [enumD] at h
theorem enumD_length : ∀ {xs : List DV} {n : Nat}, (enumD n xs).length = xs.length
  | [], _ => rfl
  | x :: xs, n => by simp [enumD, enumD_length (xs := xs)]
theorem itr_enum {K : PySem.W.Frag} {H0 : Hp} {a : Addr} {vs : List V} {xs : List DV} {C1 C D1 Ci : Fp} (hl : ∀ H1, (∀ x ∈ C1, H1 x = H0 x) → SqL K H1 a vs) (r : RpAll K H0 vs xs [] D1) (s1 : ∀ x ∈ C1, x ∈ C) (t1 : ∀ x ∈ D1, x ∈ Ci) : ItR K H0 (Ite K a) (enumD 0 xs) C Ci := by
  intro i H k hC hCi
  have q1 : SqL K H a vs := hl H fun x q => hC x (s1 x q)
  refine ⟨fun hi => ⟨vs, q1, by rw [enumD_length] at hi; rw [r.length]; omega⟩, fun d hd => ?_⟩
  obtain ⟨d1, h1, rfl⟩ := enumD_get hd
  obtain ⟨v, G1, B1, e1, p1, u1, w1⟩ := r.get h1
  refine ⟨⟨vs, v, q1, e1⟩, fun x H' hy => ?_⟩
  obtain ⟨T, x1, rfl, hT, rfl, y1⟩ := hy
  have ex : x1 = v := Option.some.inj ((y1 vs q1).symm.trans e1)
  subst ex
  rw [nil_of_sub u1] at p1
  have p1' : Rp K H x1 d1 [] B1 := p1.ext k (fun _ q => nomatch q) fun a q => hCi a (t1 a (w1 a q))
  have pi : Rp K H (.int ((i : Nat) : Int)) (.p (.int ((0 + i : Nat) : Int))) [] [] := by rw [Nat.zero_add]; exact .p (.int _)
  obtain ⟨C', rp, sub⟩ := pair_ok hT pi p1'
  exact ⟨same_upd hT, C', rp, fun a q => (sub a q).elim (fun z => nomatch z) fun z => t1 a (w1 a z)⟩
def fEnumQ (q : En → Option (List DV)) : En → Option (List DV) := fun env => (q env).bind fun ds => match ds with
  | [d] => d.itL.map (enumD 0)
  | _ => none
def fEnum (q : En → Option (List DV)) : En → Option (List DV × En) := fun env => (fEnumQ q env).map fun ds => (ds, env)
def fZip (q : En → Option (List DV)) : En → Option (List DV × En) := fun env => (fZipQ q env).map fun ds => (ds, env)
section
variable {X : Cx} {a b e e2 : Expr} {es : List Expr} {pos : Pos}
theorem sar_nil : SAR X [] aNil := by
  refine ⟨pa_imp pa_nil ?_⟩
  rintro σ H Q ⟨env, F, B, ds, hS, dj, hq, k⟩
  cases hq
  exact k [] H [] [] (Same.refl H) .nil (fun _ q => nomatch q) fun _ q => nomatch q
theorem sar_cons {q : En → Option DV} {r : En → Option (List DV)} (h : SR X e q) (g : SAR X es r) (hs : starEach (e :: es) X.env = (false, eval e X.env) :: starEach es X.env := by rfl) : SAR X (e :: es) (aCons q r) := by
  refine ⟨pa_imp (pa_cons h.pe g.pa hs) ?_⟩
  rintro σ H Q ⟨env, F, B, ds, hS, dj, hq, k⟩
  obtain ⟨d, h1, hq⟩ := Option.bind_eq_some_iff.mp hq
  obtain ⟨ds', h2, rfl⟩ := Option.map_eq_some_iff.mp hq
  refine ⟨env, F, B, d, hS, dj, h1, fun v H1 G1 C1 sm1 r1 n1 c1 => ?_⟩
  refine ⟨env, F, B, ds', hS.same sm1, dj, h2, fun vs H2 G2 C2 sm2 r2 n2 c2 => ?_⟩
  refine k (v :: vs) H2 (G1 ++ G2) (C1 ++ C2) (sm1.trans sm2) (.cons (r1.same sm2) r2 fun a q z => ?_) (fun a q => ?_) fun a q => ?_
  · obtain ⟨o, e, _⟩ := r1.own a q
    rw [n2 a z] at e; cases e
  · exact (List.mem_append.mp q).elim (n1 a) fun z => sm1.free (n2 a z)
  · exact (List.mem_append.mp q).elim (c1 a) (c2 a)
theorem siq_enum {p tpos : Pos} {elts : List Expr} {kk : Nat} {q : En → Option (List DV)} (ha : SA X [e] q) (hm : X.mg "enumerate" = none) (hg : Gl X "enumerate" := by rfl) (hs : starEach [e] X.env = [(false, eval e X.env)] := by rfl) : SIq X (.Tuple elts kk tpos) (.Call (.Name "enumerate" p) [e] [] pos) (fEnumQ q) := by
  refine ⟨pi_imp (pi_enum hg hm ha.pa hs) ?_⟩
  rintro σ H R ⟨env, F, B, ds, hS, dj, hf, k⟩
  obtain ⟨as, h1, h2⟩ := Option.bind_eq_some_iff.mp hf
  refine ⟨env, F, B, as, hS, dj, h1, fun vs H' G C sm r n c => ?_⟩
  split at h2
  · rename_i d
    obtain ⟨xs, hx, rfl⟩ := Option.map_eq_some_iff.mp h2
    obtain ⟨v, rfl, r1⟩ := RpAll.one' r
    obtain ⟨a, vs, Cx, Ci, rfl, l1, l2, l3, l4⟩ := src_l r1 hx
    exact ⟨a, vs, rfl, l1 H' fun _ _ => rfl, k _ H' Cx Ci sm (fun x q => (l2 x q).1) (fun x q => c x (l4 x q)) (itr_enum l1 l3 (fun _ q => q) fun _ q => q)⟩
  · cases h2
theorem si_enum {p tpos : Pos} {elts : List Expr} {kk : Nat} {q : En → Option (List DV)} (ha : SAR X [e] q) (hm : X.mg "enumerate" = none) (hg : Gl X "enumerate" := by rfl) (hs : starEach [e] X.env = [(false, eval e X.env)] := by rfl) : SI X (.Tuple elts kk tpos) (.Call (.Name "enumerate" p) [e] [] pos) (fEnum q) := by
  refine ⟨pi_imp (pi_enum hg hm ha.pa hs) ?_⟩
  rintro σ H R ⟨env, F, B, ds, env', hS, dj, hf, k⟩
  obtain ⟨ds', h0, h00⟩ := Option.map_eq_some_iff.mp hf
  cases h00
  obtain ⟨as, h1, h2⟩ := Option.bind_eq_some_iff.mp h0
  refine ⟨env, F, B, as, hS, dj, h1, fun vs H' G C sm r n c => ?_⟩
  split at h2
  · rename_i d
    obtain ⟨xs, hx, rfl⟩ := Option.map_eq_some_iff.mp h2
    obtain ⟨v, rfl, r1⟩ := RpAll.one' r
    obtain ⟨a, vs, Cx, Ci, rfl, l1, l2, l3, l4⟩ := src_l r1 hx
    refine ⟨a, vs, rfl, l1 H' fun _ _ => rfl, k _ H' F B Cx B sm.keep (hS.same sm) Nw.self Sb.self (fun x q => ⟨fun z => ?_, (l2 x q).1⟩) (fun _ q => q) (itr_enum l1 l3 (fun _ q => q) fun x q => c x (l4 x q))⟩
    rcases (l2 x q).2 with y | y
    · obtain ⟨o, e, _⟩ := hS.own x z
      rw [n x y] at e; cases e
    · exact dj x z (c x y)
  · cases h2
theorem si_zip {p tpos : Pos} {elts : List Expr} {kk : Nat} {q : En → Option (List DV)} (ha : SAR X [e, e2] q) (hm : X.mg "zip" = none) (hg : Gl X "zip" := by rfl)
    (hs : starEach [e, e2] X.env = (false, eval e X.env) :: starEach [e2] X.env := by rfl) (hpl : (backTo pos (starEach [e2] X.env)).any (·.1) = false := by rfl) : SI X (.Tuple elts kk tpos) (.Call (.Name "zip" p) [e, e2] [] pos) (fZip q) := by
  refine ⟨pi_imp (pi_zipA hg hm ha.pa hs hpl) ?_⟩
  rintro σ H R ⟨env, F, B, ds, env', hS, dj, hf, k⟩
  obtain ⟨ds', h0, h00⟩ := Option.map_eq_some_iff.mp hf
  cases h00
  obtain ⟨as, h1, h2⟩ := Option.bind_eq_some_iff.mp h0
  refine ⟨env, F, B, as, hS, dj, h1, fun vs H' G C sm r n c => ?_⟩
  split at h2
  · rename_i d1 d2
    cases r with
    | @cons v _ _ _ F1 F2 B1 B2 r1 rr dd =>
      cases rr with
      | @cons w _ _ _ F3 F4 B3 B4 r2 r3 dd2 =>
        cases r3
        have free : ∀ x, x ∈ F1 ++ (F3 ++ []) ∨ x ∈ B1 ++ (B3 ++ []) → x ∉ F := fun x y z => by
          rcases y with y | y
          · obtain ⟨o, e, _⟩ := hS.own x z
            rw [n x y] at e; cases e
          · exact dj x z (c x y)
        split at h2
        · rename_i xs ys hx hy
          cases h2
          obtain ⟨a, vs, Cx, Ci, rfl, l1, l2, l3, l4⟩ := src_l r1 hx
          obtain ⟨b, ws, Cy, Cj, rfl, m1, m2, m3, m4⟩ := src_l r2 hy
          refine ⟨a, b, vs, ws, rfl, .inl ⟨l1 H' fun _ _ => rfl, m1 H' fun _ _ => rfl, ?_⟩⟩
          refine k _ H' F B (Cx ++ Cy) B sm.keep (hS.same sm) Nw.self Sb.self (fun x q => ?_) (fun _ q => q) (itr_zip l1 m1 l3 m3 (fun x q => List.mem_append_left _ q) (fun x q => List.mem_append_right _ q) (fun x q => c x (List.mem_append_left _ (l4 x q))) fun x q => c x (List.mem_append_right _ (List.mem_append_left _ (m4 x q))))
          rcases List.mem_append.mp q with q | q
          · exact ⟨free x ((l2 x q).2.imp (List.mem_append_left _) (List.mem_append_left _)), (l2 x q).1⟩
          · exact ⟨free x ((m2 x q).2.imp (fun z => List.mem_append_right _ (List.mem_append_left _ z)) fun z => List.mem_append_right _ (List.mem_append_left _ z)), (m2 x q).1⟩
        · split at h2
          · rename_i xs ys hx hy
            cases h2
            obtain ⟨a, vs, rfl, l1, l3⟩ := src_t r1 hx
            obtain ⟨b, ws, rfl, m1, m3⟩ := src_t r2 hy
            exact ⟨a, b, vs, ws, rfl, .inr ⟨l1.seq, m1.seq, k _ H' F B [] B sm.keep (hS.same sm) Nw.self Sb.self (fun _ q => nomatch q) (fun _ q => q) (itr_zipT l1 m1 l3 m3)⟩⟩
          · cases h2
  · cases h2
end
end Sm

set_option Elab.async false
set_option linter.all false
set_option maxRecDepth 100000
/-! S20: iterators over any source: zip of two or three, enumerate from a start. -/
namespace Sm
open PySem PySem.Spec PyProof.Rows L2 RZ
def SrcAt (K : PySem.W.Frag) (t : Bool) (a : Addr) (vs : List V) (H : Hp) : Prop := match t with | true => SqT K H a vs | false => SqL K H a vs
def SrcRaw (h : Heap) (t : Bool) (a : Addr) (items : Array Value) : Prop := match t with | true => h.IsTuple a items | false => h.IsList a items
def CurAt (h : Heap) (t : Bool) (it a : Addr) (i : Nat) : Prop := match t with | true => h.IsTupleIter it a i | false => h.IsListIter it a i
def curO (t : Bool) (a : Addr) : Obj := match t with | true => { cls := .type "tuple_iterator", data := .fields #[.ref a, .int 0 0] } | false => { cls := .type "list_iterator", data := .fields #[.ref a, .int 0 0] }
theorem begins_src (t : Bool) (a : Addr) (items : Array Value) : Begins (.ref a) (curO t a) (fun h => SrcRaw h t a items) := match t with
  | true => begins_tuple a items
  | false => begins_list a items
theorem draws_src {prog : Program} {w : World} {A : Around} (hh : A.handled = none) (t : Bool) (it a : Addr) (hne : a ≠ it) (items : Array Value) :
    Draws prog w A it [it, a] items.size (fun i v => items[i]? = some v) (fun i h => CurAt h t it a i ∧ SrcRaw h t a items) := match t with
  | true => Draws.tuple hh it a hne items
  | false => Draws.list hh it a hne items
theorem CurAt.obj {h : Heap} {t : Bool} {it a : Addr} {i : Nat} (c : CurAt h t it a i) : ∃ o, h.get? it = some o ∧ ∀ v, o.data ≠ .cell v := by
  cases t with
  | true => obtain ⟨o, e, _, d⟩ := c; exact ⟨o, e, fun v q => by rw [d] at q; cases q⟩
  | false => obtain ⟨o, e, _, d⟩ := c; exact ⟨o, e, fun v q => by rw [d] at q; cases q⟩
theorem CurAt.keep {h h' : Heap} {t : Bool} {it a : Addr} {i : Nat} (c : CurAt h t it a i) (k : ∀ o, h.get? it = some o → h'.get? it = some o) : CurAt h' t it a i := by
  cases t with
  | true => obtain ⟨o, e, r⟩ := c; exact ⟨o, k o e, r⟩
  | false => obtain ⟨o, e, r⟩ := c; exact ⟨o, k o e, r⟩
theorem CurAt.new {h : Heap} {t : Bool} {it a : Addr} (e : h.get? it = some (curO t a)) : CurAt h t it a 0 := by
  cases t with
  | true => exact ⟨_, e, rfl, rfl⟩
  | false => exact ⟨_, e, rfl, rfl⟩
theorem SrcRaw.lt {h : Heap} {t : Bool} {a : Addr} {items : Array Value} (r : SrcRaw h t a items) : a < h.objs.size := by
  cases t with
  | true => obtain ⟨o, e, _⟩ := r; exact Heap.lt_size e
  | false => obtain ⟨o, e, _⟩ := r; exact Heap.lt_size e
section
variable {X : Cx} {pins : List (Addr × Obj)} {σ : L2.St} {H : Hp} {s : Shared}
theorem inv_src {t : Bool} {a : Addr} {vs : List V} (I : Inv X pins σ H s) (h : SrcAt X.K t a vs H) : ∃ its : List Value, Vals vs its ∧ SrcRaw s.heap t a its.toArray := by
  cases t with
  | true => obtain ⟨its, rv, p, _⟩ := I.tuple h; exact ⟨its, rv, p⟩
  | false => obtain ⟨its, rv, p, _⟩ := I.list h; exact ⟨its, rv, p.isList⟩
end
abbrev Srcs := List (Bool × Addr × List V)
def SrcsAt (K : PySem.W.Frag) (ss : Srcs) (H : Hp) : Prop := ∀ s ∈ ss, SrcAt K s.1 s.2.1 s.2.2 H
/-- the sources' values as they stand in the heap -/
inductive SrcV : Srcs → List (List Value) → Prop where
  | nil : SrcV [] []
  | cons {s : Bool × Addr × List V} {ss : Srcs} {l : List Value} {ls : List (List Value)} : Vals s.2.2 l → SrcV ss ls → SrcV (s :: ss) (l :: ls)
inductive SrcR (h : Heap) : Srcs → List (List Value) → Prop where
  | nil : SrcR h [] []
  | cons {s : Bool × Addr × List V} {ss : Srcs} {l : List Value} {ls : List (List Value)} : SrcRaw h s.1 s.2.1 l.toArray → SrcR h ss ls → SrcR h (s :: ss) (l :: ls)
theorem srcs_raw {X : Cx} {pins : List (Addr × Obj)} {σ : L2.St} {H : Hp} {s : Shared} (I : Inv X pins σ H s) : ∀ {ss : Srcs}, SrcsAt X.K ss H → ∃ ls, SrcV ss ls ∧ SrcR s.heap ss ls
  | [], _ => ⟨[], .nil, .nil⟩
  | x :: ss, h => by
    obtain ⟨l, v, r⟩ := inv_src I (h x List.mem_cons_self)
    obtain ⟨ls, v2, r2⟩ := srcs_raw I (ss := ss) fun y q => h y (List.mem_cons_of_mem _ q)
    exact ⟨l :: ls, .cons v v2, .cons r r2⟩
def ItRow (K : PySem.W.Frag) (ss : Srcs) (n : Nat) (row : Nat → Option (List V)) : It :=
  ⟨fun i H => SrcsAt K ss H ∧ i < n,
    fun i H v H' => ∃ T r, v = .ref T ∧ H T = none ∧ H' = upd H T (.tup r) ∧ row i = some r,
    fun i H => SrcsAt K ss H ∧ n ≤ i⟩
theorem turn_row {P : Program} {w : World} {K : PySem.W.Frag} {tg : Expr} {ss : Srcs} {n : Nat} {row : Nat → Option (List V)} {it : Addr} {fpx : List Addr} {tn : Nat → Heap → Prop}
    (mem : it ∈ fpx) (obj : ∀ i h, tn i h → ∀ b ∈ fpx, ∃ o, h.get? b = some o ∧ ∀ v, o.data ≠ .cell v)
    (keep : ∀ i h h', tn i h → (∀ b ∈ fpx, ∀ o, h.get? b = some o → h'.get? b = some o) → tn i h') (le : ∀ i h, tn i h → i ≤ n)
    (self : ∀ (A : Around) (i : Nat) (s : Shared) (Q : Value → Shared → Prop) (E : Value → Shared → Prop), tn i s.heap → Q (.ref it) s → wpAny (model P w) A (pyIter (.ref it)) Q E s)
    (walk : ∀ (A : Around), A.handled = none → ∀ ls, SrcV ss ls → ∃ (fp wr : List Addr) (Y : Nat → Heap → Value → Heap → Prop) (St : Nat → Heap → Prop), GoesN P w A tg it fp wr n Y St ∧ (∀ b ∈ wr, b ∈ fpx) ∧
      (∀ i h, tn i h → SrcR h ss ls → St i h) ∧ (∀ i h, i ≤ n → St i h → tn i h) ∧
      ∀ i h0 v h', i < n → Y i h0 v h' → ∃ T us r, v = .ref T ∧ h0.objs.size ≤ T ∧ h'.IsTuple T (List.toArray us) ∧ row i = some r ∧ Vals r us ∧ r.length ≤ sizeLine) :
    Turn P w K tg (ItRow K ss n row) fpx it tn where
  mem := mem
  obj := obj
  keep := keep
  self := self
  item := by
    intro X hP hw hK hc i pins s σ H E I hf st hg
    subst hP hw hK
    obtain ⟨hs, hi⟩ := hg
    obtain ⟨ls, pv, pr⟩ := srcs_raw I hs
    obtain ⟨fp, wr, Y, St, W, hwr, toSt, ofSt, hY⟩ := walk X.A (I.ok.hd hc) ls pv
    refine W.goes i s _ E hi (toSt i _ st pr) fun v h' tk hYv st' hk htk => ?_
    obtain ⟨T, us, r, rfl, hT, hTup, hr, rv, hz⟩ := hY i _ _ _ hi hYv
    have new : ObjOk X.prog X.w (upd H T (.tup r)) h' T (.tup r) := ⟨hz, us, rv, hTup⟩
    refine ⟨.ref T, _, I.turnedNew (ch := wr) hk (fun b hb => hf b (hwr b hb)) hT new, rfl, ⟨T, r, rfl, I.hok.fresh hT, rfl, hr⟩, ofSt _ _ hi st', fun b hb => ?_⟩
    obtain ⟨o, ho, _⟩ := obj i _ st b hb
    rw [upd_ne (Nat.ne_of_lt (Nat.lt_of_lt_of_le (Heap.lt_size ho) hT))]
    exact (hf b hb).1
  done := by
    intro X hP hw hK hc i pins s σ H E I hf st hg
    subst hP hw hK
    obtain ⟨hs, hi⟩ := hg
    obtain ⟨ls, pv, pr⟩ := srcs_raw I hs
    obtain ⟨fp, wr, Y, St, W, hwr, toSt, ofSt, hY⟩ := walk X.A (I.ok.hd hc) ls pv
    have e : i = n := Nat.le_antisymm (le i _ st) hi
    subst e
    exact W.stops s _ E (toSt _ _ st pr) fun h' tk hk htk => I.turnedL (ch := wr) hk fun b hb => hf b (hwr b hb)
def row2 (xs ys : List V) : Nat → Option (List V) := fun i => match xs[i]?, ys[i]? with
  | some x, some y => some [x, y]
  | _, _ => none
def row3 (xs ys zs : List V) : Nat → Option (List V) := fun i => match xs[i]?, ys[i]?, zs[i]? with
  | some x, some y, some z => some [x, y, z]
  | _, _, _ => none
def rowE (k : Int) (xs : List V) : Nat → Option (List V) := fun i => xs[i]?.map fun x => [.int (k + (i : Nat)), x]
theorem vals_at {vs : List V} {l : List Value} {i : Nat} {u : Value} (r : Vals vs l) (e : l.toArray[i]? = some u) : ∃ x, vs[i]? = some x ∧ RelV x u := by
  have hi : i < vs.length := by rw [r.length]; exact (List.getElem?_eq_some_iff.mp (by simpa using e)).1
  obtain ⟨u', h1, h2⟩ := r.get (List.getElem?_eq_getElem hi)
  have : u' = u := by have e' : l[i]? = some u := by simpa using e
                      rw [h1] at e'; exact Option.some.inj e'
  subst this
  exact ⟨_, List.getElem?_eq_getElem hi, h2⟩
theorem turn_zip2 {P : Program} {w : World} {K : PySem.W.Frag} {elts : List Expr} {kk : Nat} {tpos : Pos} (t1 t2 : Bool) {a b N : Addr} {xs ys : List V} (ha : a < N) (hb : b < N) :
    Turn P w K (.Tuple elts kk tpos) (ItRow K [(t1, a, xs), (t2, b, ys)] (min xs.length ys.length) (row2 xs ys)) [N + 4, N + 2, N + 3, N, N + 1] (N + 4)
      (fun i h => i ≤ min xs.length ys.length ∧ IsZip h (N + 4) (N + 2) (N + 3) .none ∧ IsTupOf2 h (N + 2) (.ref N) (.ref (N + 1)) ∧ (∃ a1 a2, IsTupOf2 h (N + 3) a1 a2) ∧ CurAt h t1 N a i ∧ CurAt h t2 (N + 1) b i) := by
  refine turn_row (by simp) (fun i h st c hc => ?_) (fun i h h' st k => ?_) (fun i h st => st.1) (fun A i s Q E st q => wpAny_pyIter_zip st.2.1 q) fun A hh ls hv => ?_
  · obtain ⟨_, hz, hTI, ⟨x, y, hTO⟩, c1, c2⟩ := st
    simp only [List.mem_cons, List.not_mem_nil, or_false] at hc
    rcases hc with q | q | q | q | q
    · rw [q]; exact ⟨_, hz, fun v q => nomatch q⟩
    · rw [q]; exact ⟨_, hTI, fun v q => nomatch q⟩
    · rw [q]; exact ⟨_, hTO, fun v q => nomatch q⟩
    · rw [q]; exact c1.obj
    · rw [q]; exact c2.obj
  · obtain ⟨hi, hz, hTI, ⟨x, y, hTO⟩, c1, c2⟩ := st
    exact ⟨hi, k _ (by simp) _ hz, k _ (by simp) _ hTI, ⟨x, y, k _ (by simp) _ hTO⟩, c1.keep fun o q => k _ (by simp) o q, c2.keep fun o q => k _ (by simp) o q⟩
  · obtain _ | ⟨v1, hv⟩ := hv
    obtain _ | ⟨v2, hv⟩ := hv
    cases hv
    rename_i l1 l2
    have n1 : l1.toArray.size = xs.length := by simpa using v1.length.symm
    have n2 : l2.toArray.size = ys.length := by simpa using v2.length.symm
    have hA : A.in1.handled = none := hh
    have W := GoesN.zip2 (prog := P) (w := w) (A := A) (elts := elts) (x1 := kk) (pos := tpos) (zip_sep2 (N := N) (fp1 := [a]) (fp2 := [b]) (fun c q => by rw [List.mem_singleton.mp q]; exact ha) (fun c q => by rw [List.mem_singleton.mp q]; exact hb))
      (draws_src hA t1 N a (Nat.ne_of_lt ha) l1.toArray) (draws_src hA t2 (N + 1) b (Nat.ne_of_lt (Nat.lt_succ_of_lt hb)) l2.toArray)
    rw [n1, n2] at W
    refine ⟨_, _, _, _, W, by simp, fun i h st r => ?_, fun i h hi st => ?_, fun i h0 v h' hi y => ?_⟩
    · obtain _ | ⟨r1, r⟩ := r
      obtain _ | ⟨r2, r⟩ := r
      obtain ⟨_, hz, hTI, hTO, c1, c2⟩ := st
      exact ⟨hz, hTI, hTO, ⟨c1, r1⟩, ⟨c2, r2⟩⟩
    · obtain ⟨hz, hTI, hTO, ⟨c1, _⟩, ⟨c2, _⟩⟩ := st
      exact ⟨hi, hz, hTI, hTO, c1, c2⟩
    · obtain ⟨T, x, y, rfl, hn, e1, e2, hT⟩ := y
      obtain ⟨x', f1, g1⟩ := vals_at v1 e1
      obtain ⟨y', f2, g2⟩ := vals_at v2 e2
      refine ⟨T, [x, y], [x', y'], rfl, hn, hT, ?_, .cons g1 (.cons g2 .nil), by show 2 ≤ sizeLine; decide⟩
      show (match xs[i]?, ys[i]? with | some x, some y => some [x, y] | _, _ => none) = _
      have f1' : xs[i]? = some x' := f1
      have f2' : ys[i]? = some y' := f2
      rw [f1', f2']
theorem turn_zip3 {P : Program} {w : World} {K : PySem.W.Frag} {elts : List Expr} {kk : Nat} {tpos : Pos} (t1 t2 t3 : Bool) {a b c N : Addr} {xs ys zs : List V} (ha : a < N) (hb : b < N) (hc : c < N) :
    Turn P w K (.Tuple elts kk tpos) (ItRow K [(t1, a, xs), (t2, b, ys), (t3, c, zs)] (min (min xs.length ys.length) zs.length) (row3 xs ys zs)) [N + 5, N + 3, N + 4, N, N + 1, N + 2] (N + 5)
      (fun i h => i ≤ min (min xs.length ys.length) zs.length ∧ IsZip h (N + 5) (N + 3) (N + 4) .none ∧ IsTupOf3 h (N + 3) (.ref N) (.ref (N + 1)) (.ref (N + 2)) ∧ (∃ a1 a2 a3, IsTupOf3 h (N + 4) a1 a2 a3) ∧ CurAt h t1 N a i ∧ CurAt h t2 (N + 1) b i ∧ CurAt h t3 (N + 2) c i) := by
  refine turn_row (by simp) (fun i h st d hd => ?_) (fun i h h' st k => ?_) (fun i h st => st.1) (fun A i s Q E st q => wpAny_pyIter_zip st.2.1 q) fun A hh ls hv => ?_
  · obtain ⟨_, hz, hTI, ⟨x, y, z, hTO⟩, c1, c2, c3⟩ := st
    simp only [List.mem_cons, List.not_mem_nil, or_false] at hd
    rcases hd with q | q | q | q | q | q
    · rw [q]; exact ⟨_, hz, fun v q => nomatch q⟩
    · rw [q]; exact ⟨_, hTI, fun v q => nomatch q⟩
    · rw [q]; exact ⟨_, hTO, fun v q => nomatch q⟩
    · rw [q]; exact c1.obj
    · rw [q]; exact c2.obj
    · rw [q]; exact c3.obj
  · obtain ⟨hi, hz, hTI, ⟨x, y, z, hTO⟩, c1, c2, c3⟩ := st
    exact ⟨hi, k _ (by simp) _ hz, k _ (by simp) _ hTI, ⟨x, y, z, k _ (by simp) _ hTO⟩, c1.keep fun o q => k _ (by simp) o q, c2.keep fun o q => k _ (by simp) o q, c3.keep fun o q => k _ (by simp) o q⟩
  · obtain _ | ⟨v1, hv⟩ := hv
    obtain _ | ⟨v2, hv⟩ := hv
    obtain _ | ⟨v3, hv⟩ := hv
    cases hv
    rename_i l1 l2 l3
    have n1 : l1.toArray.size = xs.length := by simpa using v1.length.symm
    have n2 : l2.toArray.size = ys.length := by simpa using v2.length.symm
    have n3 : l3.toArray.size = zs.length := by simpa using v3.length.symm
    have hA : A.in1.handled = none := hh
    have W := GoesN.zip3 (prog := P) (w := w) (A := A) (elts := elts) (x1 := kk) (pos := tpos) (zip_sep3 (N := N) (fp1 := [a]) (fp2 := [b]) (fp3 := [c]) (fun d q => by rw [List.mem_singleton.mp q]; exact ha) (fun d q => by rw [List.mem_singleton.mp q]; exact hb) (fun d q => by rw [List.mem_singleton.mp q]; exact hc))
      (draws_src hA t1 N a (Nat.ne_of_lt ha) l1.toArray) (draws_src hA t2 (N + 1) b (Nat.ne_of_lt (Nat.lt_succ_of_lt hb)) l2.toArray) (draws_src hA t3 (N + 2) c (Nat.ne_of_lt (Nat.lt_succ_of_lt (Nat.lt_succ_of_lt hc))) l3.toArray)
    rw [n1, n2, n3] at W
    refine ⟨_, _, _, _, W, by simp, fun i h st r => ?_, fun i h hi st => ?_, fun i h0 v h' hi y => ?_⟩
    · obtain _ | ⟨r1, r⟩ := r
      obtain _ | ⟨r2, r⟩ := r
      obtain _ | ⟨r3, r⟩ := r
      obtain ⟨_, hz, hTI, hTO, c1, c2, c3⟩ := st
      exact ⟨hz, hTI, hTO, ⟨c1, r1⟩, ⟨c2, r2⟩, ⟨c3, r3⟩⟩
    · obtain ⟨hz, hTI, hTO, ⟨c1, _⟩, ⟨c2, _⟩, ⟨c3, _⟩⟩ := st
      exact ⟨hi, hz, hTI, hTO, c1, c2, c3⟩
    · obtain ⟨T, x, y, z, rfl, hn, e1, e2, e3, hT⟩ := y
      obtain ⟨x', f1, g1⟩ := vals_at v1 e1
      obtain ⟨y', f2, g2⟩ := vals_at v2 e2
      obtain ⟨z', f3, g3⟩ := vals_at v3 e3
      refine ⟨T, [x, y, z], [x', y', z'], rfl, hn, hT, ?_, .cons g1 (.cons g2 (.cons g3 .nil)), by show 3 ≤ sizeLine; decide⟩
      show (match xs[i]?, ys[i]?, zs[i]? with | some x, some y, some z => some [x, y, z] | _, _, _ => none) = _
      have f1' : xs[i]? = some x' := f1
      have f2' : ys[i]? = some y' := f2
      have f3' : zs[i]? = some z' := f3
      rw [f1', f2', f3']
theorem turn_enumS {P : Program} {w : World} {K : PySem.W.Frag} {elts : List Expr} {kk : Nat} {tpos : Pos} (t1 : Bool) {a N : Addr} {xs : List V} (k : Int) (ha : a < N) :
    Turn P w K (.Tuple elts kk tpos) (ItRow K [(t1, a, xs)] xs.length (rowE k xs)) [N + 1, N] (N + 1)
      (fun i h => i ≤ xs.length ∧ (∃ old, IsEnum h (N + 1) N (k + (i : Int)) old) ∧ CurAt h t1 N a i) := by
  refine turn_row (by simp) (fun i h st d hd => ?_) (fun i h h' st k => ?_) (fun i h st => st.1) (fun A i s Q E st q => let ⟨_, ⟨_, he⟩, _⟩ := st; wpAny_pyIter_enum he q) fun A hh ls hv => ?_
  · obtain ⟨_, ⟨old, he⟩, c1⟩ := st
    simp only [List.mem_cons, List.not_mem_nil, or_false] at hd
    rcases hd with q | q
    · rw [q]; exact ⟨_, he, fun v q => nomatch q⟩
    · rw [q]; exact c1.obj
  · obtain ⟨hi, ⟨old, he⟩, c1⟩ := st
    exact ⟨hi, ⟨old, k _ (by simp) _ he⟩, c1.keep fun o q => k _ (by simp) o q⟩
  · obtain _ | ⟨v1, hv⟩ := hv
    cases hv
    rename_i l1
    have n1 : l1.toArray.size = xs.length := by simpa using v1.length.symm
    have hA : A.in1.handled = none := hh
    have q0 : (N + 1 : Nat) ≠ N := Nat.succ_ne_self N
    have q1 : (N + 1 : Nat) ≠ a := Nat.ne_of_gt (Nat.lt_succ_of_lt ha)
    have W := GoesN.enumFrom (prog := P) (w := w) (A := A) (elts := elts) (x1 := kk) (pos := tpos) k (draws_src hA t1 N a (Nat.ne_of_lt ha) l1.toArray) (N + 1) q0 (fun q => by
      rcases List.mem_cons.mp q with q | q
      · exact q0 q
      · exact q1 (List.mem_singleton.mp q)) (by simp)
    rw [n1] at W
    refine ⟨_, _, _, _, W, by simp, fun i h st r => ?_, fun i h hi st => ?_, fun i h0 v h' hi y => ?_⟩
    · obtain _ | ⟨r1, r⟩ := r
      obtain ⟨_, he, c1⟩ := st
      exact ⟨he, c1, r1⟩
    · obtain ⟨he, c1, _⟩ := st
      exact ⟨hi, he, c1⟩
    · obtain ⟨T, t, x, rfl, hn, e1, hT⟩ := y
      obtain ⟨x', f1, g1⟩ := vals_at v1 e1
      refine ⟨T, [.int (k + (i : Nat)) t, x], [.int (k + (i : Nat)), x'], rfl, hn, hT, ?_, .cons ⟨_, rfl⟩ (.cons g1 .nil), by show 2 ≤ sizeLine; decide⟩
      show xs[i]?.map _ = _
      have f1' : xs[i]? = some x' := f1
      rw [f1']; rfl
end Sm

set_option Elab.async false
set_option linter.all false
set_option maxRecDepth 100000
/-! S21: zip and enumerate over any sources: the rules. -/
namespace Sm
open PySem PySem.Spec PyProof.Rows L2 RZ
set_option maxHeartbeats 1000000 in
theorem meets_enum1 {v itv : Value} {f : Heap → Heap} {H : Heap → Prop} (q0 : ∀ (prog : Program) (w : World) (A : Around) (E : Value → Shared → Prop) (s : Shared) (Q : Value → Shared → Prop), H s.heap → Q itv { s with heap := f s.heap } → wpAny (model prog w) A (pyIter v) Q E s) :
    Meets (Builtin.«enumerate.__new__» ⟨[.type "enumerate", v], []⟩) (fun _ R s => H s.heap ∧
      R (.ok (.ret (.ref (f s.heap).objs.size))) { s with heap := (f s.heap).push { cls := .type "enumerate", data := .fields #[.none, .bool false, itv, rawInt 0, .none, .none] } }) :=
  .of_wp fun prog w A R s h => by
    obtain ⟨hp, g, d, tk, os⟩ := s; obtain ⟨h1, h⟩ := h
    have hsub := sub_enumerate
    have q1 : ∀ {A' : Around} {E : Value → Shared → Prop} {Q : Value → Shared → Prop}, Q itv ⟨f hp, g, d, tk, os⟩ → wpAny (model prog w) A' (pyIter v) Q E ⟨hp, g, d, tk, os⟩ :=
      fun q => q0 prog w _ _ ⟨hp, g, d, tk, os⟩ _ h1 q
    wp_walk using q1
    refine wpAny_stack_any fun st => wpAny_pure ?_
    split
    · rename_i c _ _ _ _ _
      cases (c == Value.type "enumerate")
      · wp_walk using q1
        exact ⟨_, rfl, h⟩
      · wp_walk using q1
        exact ⟨_, rfl, h⟩
    · wp_walk using q1
      exact ⟨_, rfl, h⟩
section
variable {prog : Program} {w : World} {A : Around} {E : Value → Shared → Prop} {s : Shared}
theorem call_enum1 {t : Bool} {a : Addr} {items : Array Value} {Q : Value → Shared → Prop} (h1 : SrcRaw s.heap t a items)
    (h : ∀ h', IsEnum h' (s.heap.objs.size + 1) s.heap.objs.size 0 .none → h'.get? s.heap.objs.size = some (curO t a) → h'.objs.size = s.heap.objs.size + 2 →
      (∀ b o, s.heap.get? b = some o → h'.get? b = some o) → Q (.ref (s.heap.objs.size + 1)) { s with heap := h' }) :
    wpAny (model prog w) A (call (.type "enumerate") [.ref a]) Q E s := by
  have B := begins_src t a items
  refine callType_new F.called_enumerate (by decide) (F.typeCall_enumerate_1 _) (F.newCall_enumerate_1 _) (fun obj => F.args_object_init_2 obj _) F.entry_enumerate_new
    (meets_enum1 (itv := .ref s.heap.objs.size) (f := fun h => h.push (curO t a)) (H := fun h => SrcRaw h t a items ∧ h.objs.size = s.heap.objs.size) fun prog w A E s' Q hs q => ?_) ⟨⟨h1, rfl⟩, ?_⟩
  · have e : (s.heap.objs.size : Nat) = s'.heap.objs.size := hs.2.symm
    refine B.iter prog w A E s' Q hs.1 ?_
    rw [← e]; exact q
  · have hz : (s.heap.push (curO t a)).objs.size = s.heap.objs.size + 1 := Heap.size_push ..
    show _ ∧ _
    rw [hz]
    have he : IsEnum ((s.heap.push (curO t a)).push { cls := .type "enumerate", data := .fields #[.none, .bool false, .ref s.heap.objs.size, rawInt 0, .none, .none] }) (s.heap.objs.size + 1) s.heap.objs.size 0 .none := by
      have := Heap.get?_push_size (s.heap.push (curO t a)) (o := { cls := .type "enumerate", data := .fields #[.none, .bool false, .ref s.heap.objs.size, rawInt 0, .none, .none] }) rfl
      rw [hz] at this; exact this
    exact ⟨⟨_, he, rfl⟩, h _ he (Heap.get?_push_of_some _ (Heap.get?_push_size _ B.free)) (by rw [Heap.size_push, hz]) fun b o x => Heap.get?_push_of_some _ (Heap.get?_push_of_some _ x)⟩
end
/-! ### what is walked, by its values -/
def iZ2 (K : PySem.W.Frag) (ta : TA) : TI := fun σ H R => ta σ H fun vs H1 => ∃ t1 a xs t2 b ys, vs = [.ref a, .ref b] ∧ SrcAt K t1 a xs H1 ∧ SrcAt K t2 b ys H1 ∧ R (ItRow K [(t1, a, xs), (t2, b, ys)] (min xs.length ys.length) (row2 xs ys)) H1
def iZ3 (K : PySem.W.Frag) (ta : TA) : TI := fun σ H R => ta σ H fun vs H1 => ∃ t1 a xs t2 b ys t3 c zs, vs = [.ref a, .ref b, .ref c] ∧ SrcAt K t1 a xs H1 ∧ SrcAt K t2 b ys H1 ∧ SrcAt K t3 c zs H1 ∧ R (ItRow K [(t1, a, xs), (t2, b, ys), (t3, c, zs)] (min (min xs.length ys.length) zs.length) (row3 xs ys zs)) H1
def iE1 (K : PySem.W.Frag) (ta : TA) : TI := fun σ H R => ta σ H fun vs H1 => ∃ t1 a xs, vs = [.ref a] ∧ SrcAt K t1 a xs H1 ∧ R (ItRow K [(t1, a, xs)] xs.length (rowE 0 xs)) H1
def iE2 (K : PySem.W.Frag) (ta : TA) : TI := fun σ H R => ta σ H fun vs H1 => ∃ t1 a xs k, vs = [.ref a, .int k] ∧ -(2 ^ 63) ≤ k ∧ k < 2 ^ 63 ∧ SrcAt K t1 a xs H1 ∧ R (ItRow K [(t1, a, xs)] xs.length (rowE k xs)) H1
theorem le_fp {N : Nat} {b : Addr} {l : List Nat} (h : b ∈ l.map (N + ·)) : N ≤ b := by
  obtain ⟨k, _, rfl⟩ := List.mem_map.mp h
  exact Nat.le_add_right _ _
section
variable {X : Cx} {e e2 e3 : Expr} {ta : TA} {p pos tpos : Pos} {elts : List Expr} {kk : Nat}
theorem pi_z2 (hg : Gl X "zip") (hm : X.mg "zip" = none) (ha : PA X [e, e2] ta)
    (hs : starEach [e, e2] X.env = (false, eval e X.env) :: starEach [e2] X.env := by rfl) (hpl : (backTo pos (starEach [e2] X.env)).any (·.1) = false := by rfl) :
    PI X (.Tuple elts kk tpos) (.Call (.Name "zip" p) [e, e2] [] pos) (iZ2 X.K ta) := by
  refine ⟨fun pins s σ H R I h => ?_⟩
  refine Call_ (ld_blt I hg hm PyProof.Rows.boot_zip (PyProof.Rows.callWith_type1 (thn (ha.run pos pins s σ H _ I h) fun us s1 ⟨vs, H1, I1, r1, q1⟩ => ?_) hs hpl))
  obtain ⟨t1, a, xs, t2, b, ys, ex, hx, hy, q⟩ := q1
  subst ex
  obtain _ | ⟨r, rr⟩ := r1
  obtain _ | ⟨r', rr⟩ := rr
  cases rr
  cases r
  cases r'
  obtain ⟨l1, v1, w1⟩ := inv_src I1 hx
  obtain ⟨l2, v2, w2⟩ := inv_src I1 hy
  refine zip_begins2 (begins_src t1 a l1.toArray) (begins_src t2 b l2.toArray) w1 w2 fun h' hz hTI hTO g1 g2 hsz hk => wpAny_pyIter_zip hz ?_
  exact ⟨_, _, _, _, H1, rfl, I1.kept (t' := s1.toks) hk, turn_zip2 t1 t2 w1.lt w2.lt, ⟨Nat.zero_le _, hz, hTI, ⟨_, _, hTO⟩, .new g1, .new g2⟩, fun c hc => have hle : s1.heap.objs.size ≤ c := le_fp (l := [4, 2, 3, 0, 1]) (by simpa using hc)
    I1.fpOk hle (I1.hok.fresh hle), q⟩
theorem pi_z3 (hg : Gl X "zip") (hm : X.mg "zip" = none) (ha : PA X [e, e2, e3] ta)
    (hs : starEach [e, e2, e3] X.env = (false, eval e X.env) :: starEach [e2, e3] X.env := by rfl) (hpl : (backTo pos (starEach [e2, e3] X.env)).any (·.1) = false := by rfl) :
    PI X (.Tuple elts kk tpos) (.Call (.Name "zip" p) [e, e2, e3] [] pos) (iZ3 X.K ta) := by
  refine ⟨fun pins s σ H R I h => ?_⟩
  refine Call_ (ld_blt I hg hm PyProof.Rows.boot_zip (PyProof.Rows.callWith_type1 (thn (ha.run pos pins s σ H _ I h) fun us s1 ⟨vs, H1, I1, r1, q1⟩ => ?_) hs hpl))
  obtain ⟨t1, a, xs, t2, b, ys, t3, c, zs, ex, hx, hy, hz, q⟩ := q1
  subst ex
  obtain _ | ⟨r, rr⟩ := r1
  obtain _ | ⟨r', rr⟩ := rr
  obtain _ | ⟨r'', rr⟩ := rr
  cases rr
  cases r
  cases r'
  cases r''
  obtain ⟨l1, v1, w1⟩ := inv_src I1 hx
  obtain ⟨l2, v2, w2⟩ := inv_src I1 hy
  obtain ⟨l3, v3, w3⟩ := inv_src I1 hz
  refine zip_begins3 (begins_src t1 a l1.toArray) (begins_src t2 b l2.toArray) (begins_src t3 c l3.toArray) w1 w2 w3 fun h' hz hTI hTO g1 g2 g3 hsz hk => wpAny_pyIter_zip hz ?_
  exact ⟨_, _, _, _, H1, rfl, I1.kept (t' := s1.toks) hk, turn_zip3 t1 t2 t3 w1.lt w2.lt w3.lt, ⟨Nat.zero_le _, hz, hTI, ⟨_, _, _, hTO⟩, .new g1, .new g2, .new g3⟩, fun c hc => have hle : s1.heap.objs.size ≤ c := le_fp (l := [5, 3, 4, 0, 1, 2]) (by simpa using hc)
    I1.fpOk hle (I1.hok.fresh hle), q⟩
theorem pi_e1 (hg : Gl X "enumerate") (hm : X.mg "enumerate" = none) (ha : PA X [e] ta) (hs : starEach [e] X.env = [(false, eval e X.env)] := by rfl) :
    PI X (.Tuple elts kk tpos) (.Call (.Name "enumerate" p) [e] [] pos) (iE1 X.K ta) := by
  refine ⟨fun pins s σ H R I h => ?_⟩
  refine Call_ (ld_blt I hg hm boot_enumerate (PyProof.Rows.callWith_type1 (thn (ha.run pos pins s σ H _ I h) fun us s1 ⟨vs, H1, I1, r1, q1⟩ => ?_) hs rfl))
  obtain ⟨t1, a, xs, ex, hx, q⟩ := q1
  subst ex
  obtain _ | ⟨r, rr⟩ := r1
  cases rr
  cases r
  obtain ⟨l1, v1, w1⟩ := inv_src I1 hx
  refine call_enum1 w1 fun h' he g1 hsz hk => wpAny_pyIter_enum he ?_
  exact ⟨_, _, _, _, H1, rfl, I1.kept (t' := s1.toks) hk, turn_enumS t1 0 w1.lt, ⟨Nat.zero_le _, ⟨_, he⟩, .new g1⟩, fun c hc => have hle : s1.heap.objs.size ≤ c := le_fp (l := [1, 0]) (by simpa using hc)
    I1.fpOk hle (I1.hok.fresh hle), q⟩
theorem pi_e2 (hg : Gl X "enumerate") (hm : X.mg "enumerate" = none) (ha : PA X [e, e2] ta)
    (hs : starEach [e, e2] X.env = (false, eval e X.env) :: starEach [e2] X.env := by rfl) (hpl : (backTo pos (starEach [e2] X.env)).any (·.1) = false := by rfl) :
    PI X (.Tuple elts kk tpos) (.Call (.Name "enumerate" p) [e, e2] [] pos) (iE2 X.K ta) := by
  refine ⟨fun pins s σ H R I h => ?_⟩
  refine Call_ (ld_blt I hg hm boot_enumerate (PyProof.Rows.callWith_type1 (thn (ha.run pos pins s σ H _ I h) fun us s1 ⟨vs, H1, I1, r1, q1⟩ => ?_) hs hpl))
  obtain ⟨t1, a, xs, k, ex, k0, k1, hx, q⟩ := q1
  subst ex
  obtain _ | ⟨r, rr⟩ := r1
  obtain _ | ⟨r', rr⟩ := rr
  cases rr
  cases r
  obtain ⟨t, rfl⟩ := r'
  obtain ⟨l1, v1, w1⟩ := inv_src I1 hx
  refine enum_begins (begins_src t1 a l1.toArray) w1 k0 k1 fun h' he g1 hsz hk => wpAny_pyIter_enum he ?_
  exact ⟨_, _, _, _, H1, rfl, I1.kept (t' := s1.toks) hk, turn_enumS t1 k w1.lt, ⟨Nat.zero_le _, ⟨_, by simpa using he⟩, .new g1⟩, fun c hc => have hle : s1.heap.objs.size ≤ c := le_fp (l := [1, 0]) (by simpa using hc)
    I1.fpOk hle (I1.hok.fresh hle), q⟩
end
theorem src_any {K : PySem.W.Frag} {H : Hp} {v : V} {d : DV} {xs : List DV} {G C : Fp} (r : Rp K H v d G C) (e : d.itm = some xs) : ∃ (t : Bool) (a : Addr) (vs : List V) (Cx Ci : Fp), v = .ref a ∧ (∀ H1, TupKeep H H1 → (∀ x ∈ Cx, H1 x = H x) → SrcAt K t a vs H1) ∧ (∀ x ∈ Cx, (∃ o, H x = some o) ∧ (x ∈ G ∨ x ∈ C)) ∧ RpAll K H vs xs [] Ci ∧ ∀ x ∈ Ci, x ∈ C := by
  by_cases ht : ∃ ys, d = .p (.tup ys)
  · obtain ⟨ys, rfl⟩ := ht
    obtain ⟨a, vs, rfl, t, r'⟩ := src_t r (xs := xs) e
    exact ⟨true, a, vs, [], [], rfl, fun H1 k _ => (t.ext k).seq, (fun _ q => nomatch q), r', fun _ q => nomatch q⟩
  · have e' : d.itL = some xs := by
      cases d with
      | p x => cases x with
        | tup ys => exact absurd ⟨ys, rfl⟩ ht
        | _ => cases e
      | _ => exact e
    obtain ⟨a, vs, Cx, Ci, rfl, l1, l2, l3, l4⟩ := src_l r e'
    exact ⟨false, a, vs, Cx, Ci, rfl, fun H1 _ q => l1 H1 q, l2, l3, l4⟩
theorem itr_row {K : PySem.W.Frag} {H0 : Hp} {ss : Srcs} {n : Nat} {row : Nat → Option (List V)} {ds : List DV} {C Ci : Fp} (hs : ∀ H1, TupKeep H0 H1 → (∀ x ∈ C, H1 x = H0 x) → SrcsAt K ss H1) (hn : ds.length = n)
    (hr : ∀ i d r H T, ds[i]? = some d → row i = some r → TupKeep H0 H → (∀ x ∈ Ci, H x = H0 x) → H T = none → ∃ C', Rp K (upd H T (.tup r)) (.ref T) d [] C' ∧ ∀ a ∈ C', a ∈ Ci) : ItR K H0 (ItRow K ss n row) ds C Ci := by
  intro i H k hC hCi
  have hS := hs H k hC
  refine ⟨fun hi => ⟨hS, hn ▸ hi⟩, fun d hd => ⟨⟨hS, hn ▸ (List.getElem?_eq_some_iff.mp hd).1⟩, fun x H' hy => ?_⟩⟩
  obtain ⟨T, r, rfl, hT, rfl, hrow⟩ := hy
  exact ⟨same_upd hT, hr i d r H T hd hrow k hCi hT⟩
theorem item_at {K : PySem.W.Frag} {H0 H : Hp} {vs : List V} {xs : List DV} {D Ci : Fp} {i : Nat} {d : DV} (r : RpAll K H0 vs xs [] D) (s : ∀ a ∈ D, a ∈ Ci) (k : TupKeep H0 H) (hCi : ∀ x ∈ Ci, H x = H0 x) (e : xs[i]? = some d) : ∃ v B, vs[i]? = some v ∧ Rp K H v d [] B ∧ ∀ a ∈ B, a ∈ Ci := by
  obtain ⟨v, G1, B1, e1, p1, u1, w1⟩ := r.get e
  rw [nil_of_sub u1] at p1
  exact ⟨v, B1, e1, p1.ext k (fun _ q => nomatch q) fun a q => hCi a (s a (w1 a q)), fun a q => s a (w1 a q)⟩
theorem itr_z2 {K : PySem.W.Frag} {H0 : Hp} {t1 t2 : Bool} {a b : Addr} {vs ws : List V} {xs ys : List DV} {C1 C2 C D1 D2 Ci : Fp} (h1 : ∀ H1, TupKeep H0 H1 → (∀ x ∈ C1, H1 x = H0 x) → SrcAt K t1 a vs H1) (h2 : ∀ H1, TupKeep H0 H1 → (∀ x ∈ C2, H1 x = H0 x) → SrcAt K t2 b ws H1)
    (r1 : RpAll K H0 vs xs [] D1) (r2 : RpAll K H0 ws ys [] D2) (s1 : ∀ x ∈ C1, x ∈ C) (s2 : ∀ x ∈ C2, x ∈ C) (u1 : ∀ x ∈ D1, x ∈ Ci) (u2 : ∀ x ∈ D2, x ∈ Ci) : ItR K H0 (ItRow K [(t1, a, vs), (t2, b, ws)] (min vs.length ws.length) (row2 vs ws)) (zipD xs ys) C Ci := by
  refine itr_row (fun H1 k q s hs => ?_) (by rw [zipD_length, r1.length, r2.length]) fun i d r H T hd hr k hCi hT => ?_
  · simp only [List.mem_cons, List.not_mem_nil, or_false] at hs
    rcases hs with rfl | rfl
    · exact h1 H1 k fun x z => q x (s1 x z)
    · exact h2 H1 k fun x z => q x (s2 x z)
  · obtain ⟨d1, d2, e1, e2, rfl⟩ := zipD_get hd
    obtain ⟨v, B1, f1, p1, g1⟩ := item_at r1 u1 k hCi e1
    obtain ⟨w, B2, f2, p2, g2⟩ := item_at r2 u2 k hCi e2
    have hr' : (match vs[i]?, ws[i]? with | some x, some y => some [x, y] | _, _ => none) = some r := hr
    rw [f1, f2] at hr'
    cases hr'
    obtain ⟨C', rp, sub⟩ := pair_ok hT p1 p2
    exact ⟨C', rp, fun a q => (sub a q).elim (g1 a) (g2 a)⟩
def tripD : DV → DV → DV → DV := fun x y z => match x, y, z with
  | .p a, .p b, .p c => .p (.tup [a, b, c])
  | x, y, z => .mt [x, y, z]
theorem trip_ok {K : PySem.W.Frag} {H : Hp} {x y z : V} {d1 d2 d3 : DV} {C1 C2 C3 : Fp} {T : Addr} (hT : H T = none) (r1 : Rp K H x d1 [] C1) (r2 : Rp K H y d2 [] C2) (r3 : Rp K H z d3 [] C3) : ∃ C, Rp K (upd H T (.tup [x, y, z])) (.ref T) (tripD d1 d2 d3) [] C ∧ ∀ a ∈ C, a ∈ C1 ∨ a ∈ C2 ∨ a ∈ C3 := by
  have sm := same_upd (o := .tup [x, y, z]) hT
  have all : RpAll K H [x, y, z] [d1, d2, d3] [] (C1 ++ (C2 ++ (C3 ++ []))) := .cons (F := []) (G := []) r1 (.cons (F := []) (G := []) r2 (.cons (F := []) (G := []) r3 .nil fun _ q => nomatch q) fun _ q => nomatch q) fun _ q => nomatch q
  have gen : Rp K (upd H T (.tup [x, y, z])) (.ref T) (.mt [d1, d2, d3]) [] (C1 ++ (C2 ++ (C3 ++ []))) := .mt (.inl upd_same) (all.same sm)
  have sub : ∀ a ∈ C1 ++ (C2 ++ (C3 ++ [])), a ∈ C1 ∨ a ∈ C2 ∨ a ∈ C3 := fun a q => by simpa using q
  cases d1 with
  | p a =>
    cases d2 with
    | p b =>
      cases d3 with
      | p c =>
        obtain ⟨p1, _, _⟩ := r1.pure
        obtain ⟨p2, _, _⟩ := r2.pure
        obtain ⟨p3, _, _⟩ := r3.pure
        exact ⟨[], .p (.tup (.inl upd_same) (.cons (p1.ext sm.tups) (.cons (p2.ext sm.tups) (.cons (p3.ext sm.tups) .nil)))), fun _ q => nomatch q⟩
      | _ => exact ⟨_, gen, sub⟩
    | _ => exact ⟨_, gen, sub⟩
  | _ => exact ⟨_, gen, sub⟩
def zip3D : List DV → List DV → List DV → List DV
  | x :: xs, y :: ys, z :: zs => tripD x y z :: zip3D xs ys zs
  | _, _, _ => []
theorem zip3D_get : ∀ {xs ys zs : List DV} {i : Nat} {d : DV}, (zip3D xs ys zs)[i]? = some d → ∃ x y z, xs[i]? = some x ∧ ys[i]? = some y ∧ zs[i]? = some z ∧ d = tripD x y z
  | x :: xs, y :: ys, z :: zs, 0, d, h => by simp [zip3D] at h; exact ⟨x, y, z, rfl, rfl, rfl, h.symm⟩
  | x :: xs, y :: ys, z :: zs, i + 1, d, h => by
    obtain ⟨a, b, c, h1, h2, h3, h4⟩ := zip3D_get (xs := xs) (ys := ys) (zs := zs) (i := i) (by simpa [zip3D] using h)
    exact ⟨a, b, c, by simpa using h1, by simpa using h2, by simpa using h3, h4⟩
  | [], _, _, _, _, h => by simp [zip3D] at h
  | _ :: _, [], _, _, _, h => by simp [zip3D] at h
  | _ :: _, _ :: _, [], _, _, h => by simp [zip3D] at h
theorem zip3D_length : ∀ {xs ys zs : List DV}, (zip3D xs ys zs).length = min (min xs.length ys.length) zs.length
  | x :: xs, y :: ys, z :: zs => by simp [zip3D, zip3D_length (xs := xs) (ys := ys) (zs := zs)]
  | [], _, _ => by simp [zip3D]
  | _ :: _, [], _ => by simp [zip3D]
  | _ :: _, _ :: _, [] => by simp [zip3D]
theorem itr_z3 {K : PySem.W.Frag} {H0 : Hp} {t1 t2 t3 : Bool} {a b c : Addr} {vs ws us : List V} {xs ys zs : List DV} {C1 C2 C3 C D1 D2 D3 Ci : Fp} (h1 : ∀ H1, TupKeep H0 H1 → (∀ x ∈ C1, H1 x = H0 x) → SrcAt K t1 a vs H1) (h2 : ∀ H1, TupKeep H0 H1 → (∀ x ∈ C2, H1 x = H0 x) → SrcAt K t2 b ws H1) (h3 : ∀ H1, TupKeep H0 H1 → (∀ x ∈ C3, H1 x = H0 x) → SrcAt K t3 c us H1)
    (r1 : RpAll K H0 vs xs [] D1) (r2 : RpAll K H0 ws ys [] D2) (r3 : RpAll K H0 us zs [] D3) (s1 : ∀ x ∈ C1, x ∈ C) (s2 : ∀ x ∈ C2, x ∈ C) (s3 : ∀ x ∈ C3, x ∈ C) (u1 : ∀ x ∈ D1, x ∈ Ci) (u2 : ∀ x ∈ D2, x ∈ Ci) (u3 : ∀ x ∈ D3, x ∈ Ci) :
    ItR K H0 (ItRow K [(t1, a, vs), (t2, b, ws), (t3, c, us)] (min (min vs.length ws.length) us.length) (row3 vs ws us)) (zip3D xs ys zs) C Ci := by
  refine itr_row (fun H1 k q s hs => ?_) (by rw [zip3D_length, r1.length, r2.length, r3.length]) fun i d r H T hd hr k hCi hT => ?_
  · simp only [List.mem_cons, List.not_mem_nil, or_false] at hs
    rcases hs with rfl | rfl | rfl
    · exact h1 H1 k fun x z => q x (s1 x z)
    · exact h2 H1 k fun x z => q x (s2 x z)
    · exact h3 H1 k fun x z => q x (s3 x z)
  · obtain ⟨d1, d2, d3, e1, e2, e3, rfl⟩ := zip3D_get hd
    obtain ⟨v, B1, f1, p1, g1⟩ := item_at r1 u1 k hCi e1
    obtain ⟨w, B2, f2, p2, g2⟩ := item_at r2 u2 k hCi e2
    obtain ⟨u, B3, f3, p3, g3⟩ := item_at r3 u3 k hCi e3
    have hr' : (match vs[i]?, ws[i]?, us[i]? with | some x, some y, some z => some [x, y, z] | _, _, _ => none) = some r := hr
    rw [f1, f2, f3] at hr'
    cases hr'
    obtain ⟨C', rp, sub⟩ := trip_ok hT p1 p2 p3
    exact ⟨C', rp, fun a q => (sub a q).elim (g1 a) fun z => z.elim (g2 a) (g3 a)⟩
def enumI : Int → List DV → List DV
  | _, [] => []
  | n, x :: xs => pairD (.p (.int n)) x :: enumI (n + 1) xs
theorem enumI_get : ∀ {xs : List DV} {n : Int} {i : Nat} {d : DV}, (enumI n xs)[i]? = some d → ∃ x, xs[i]? = some x ∧ d = pairD (.p (.int (n + (i : Nat)))) x
  | x :: xs, n, 0, d, h => by simp [enumI] at h; exact ⟨x, rfl, by simpa using h.symm⟩
  | x :: xs, n, i + 1, d, h => by
    obtain ⟨y, h1, h2⟩ := enumI_get (xs := xs) (n := n + 1) (i := i) (by simpa [enumI] using h)
    exact ⟨y, by simpa using h1, by rw [h2, show n + 1 + (i : Nat) = n + ((i + 1 : Nat) : Int) by omega]⟩
  | [], _, _, _, h => by simp [enumI] at h
theorem enumI_length : ∀ {xs : List DV} {n : Int}, (enumI n xs).length = xs.length
  | [], _ => rfl
  | x :: xs, n => by simp [enumI, enumI_length (xs := xs)]
theorem itr_eI {K : PySem.W.Frag} {H0 : Hp} {t1 : Bool} {a : Addr} {vs : List V} {xs : List DV} {C1 C D1 Ci : Fp} (n : Int) (h1 : ∀ H1, TupKeep H0 H1 → (∀ x ∈ C1, H1 x = H0 x) → SrcAt K t1 a vs H1)
    (r1 : RpAll K H0 vs xs [] D1) (s1 : ∀ x ∈ C1, x ∈ C) (u1 : ∀ x ∈ D1, x ∈ Ci) : ItR K H0 (ItRow K [(t1, a, vs)] vs.length (rowE n vs)) (enumI n xs) C Ci := by
  refine itr_row (fun H1 k q s hs => ?_) (by rw [enumI_length, r1.length]) fun i d r H T hd hr k hCi hT => ?_
  · simp only [List.mem_cons, List.not_mem_nil, or_false] at hs
    subst hs
    exact h1 H1 k fun x z => q x (s1 x z)
  · obtain ⟨d1, e1, rfl⟩ := enumI_get hd
    obtain ⟨v, B1, f1, p1, g1⟩ := item_at r1 u1 k hCi e1
    have hr' : vs[i]?.map (fun x => [V.int (n + (i : Nat)), x]) = some r := hr
    rw [f1] at hr'
    cases hr'
    have pi : Rp K H (.int (n + (i : Nat))) (.p (.int (n + (i : Nat)))) [] [] := .p (.int _)
    obtain ⟨C', rp, sub⟩ := pair_ok hT pi p1
    exact ⟨C', rp, fun a q => (sub a q).elim (fun z => nomatch z) (g1 a)⟩
theorem ItR.mono {K : PySem.W.Frag} {H0 : Hp} {J : It} {ds : List DV} {C Ci Cj : Fp} (h : ItR K H0 J ds C Ci) (s : ∀ a ∈ Ci, a ∈ Cj) : ItR K H0 J ds C Cj := by
  intro i H k hC hCj
  obtain ⟨h1, h2⟩ := h i H k hC fun a q => hCj a (s a q)
  refine ⟨h1, fun d hd => ⟨(h2 d hd).1, fun x H' hy => ?_⟩⟩
  obtain ⟨sm, C', rp, sub⟩ := (h2 d hd).2 x H' hy
  exact ⟨sm, C', rp, fun a q => s a (sub a q)⟩
def z2D : List DV → Option (List DV) := fun ds => match ds with
  | [d1, d2] => match d1.itm, d2.itm with
    | some xs, some ys => some (zipD xs ys)
    | _, _ => none
  | _ => none
def z3D : List DV → Option (List DV) := fun ds => match ds with
  | [d1, d2, d3] => match d1.itm, d2.itm, d3.itm with
    | some xs, some ys, some zs => some (zip3D xs ys zs)
    | _, _, _ => none
  | _ => none
def e1D : List DV → Option (List DV) := fun ds => match ds with
  | [d1] => d1.itm.map (enumI 0)
  | _ => none
def e2D : List DV → Option (List DV) := fun ds => match ds with
  | [d1, .p (.int k)] => if lg 62 k then d1.itm.map (enumI k) else none
  | _ => none
/-- what came as arguments, walked by J -/
def Wk (K : PySem.W.Frag) (H : Hp) (J : It) (ds : List DV) (G C : Fp) : Prop := ∃ Cx Ci, (∀ x ∈ Cx, (∃ o, H x = some o) ∧ (x ∈ G ∨ x ∈ C)) ∧ (∀ x ∈ Ci, x ∈ C) ∧ ItR K H J ds Cx Ci
section
variable {K : PySem.W.Frag} {H : Hp} {vs : List V} {as ds : List DV} {G C : Fp}
theorem z2_of (r : RpAll K H vs as G C) (h : z2D as = some ds) : ∃ t1 a xs t2 b ys, vs = [.ref a, .ref b] ∧ SrcAt K t1 a xs H ∧ SrcAt K t2 b ys H ∧ Wk K H (ItRow K [(t1, a, xs), (t2, b, ys)] (min xs.length ys.length) (row2 xs ys)) ds G C := by
  unfold z2D at h
  split at h
  · rename_i d1 d2
    cases r with
    | @cons v _ _ _ F1 F2 B1 B2 r1 rr dd =>
      cases rr with
      | @cons w _ _ _ F3 F4 B3 B4 r2 r3 dd2 =>
        cases r3
        split at h
        · rename_i xs ys hx hy
          cases h
          obtain ⟨t1, a, vs, Cx, Ci, rfl, l1, l2, l3, l4⟩ := src_any r1 hx
          obtain ⟨t2, b, ws, Cy, Cj, rfl, m1, m2, m3, m4⟩ := src_any r2 hy
          refine ⟨t1, a, vs, t2, b, ws, rfl, l1 H (Same.refl H).tups fun _ _ => rfl, m1 H (Same.refl H).tups fun _ _ => rfl, Cx ++ Cy, Ci ++ Cj, fun x q => ?_, fun x q => ?_,
            itr_z2 l1 m1 l3 m3 (fun x q => List.mem_append_left _ q) (fun x q => List.mem_append_right _ q) (fun x q => List.mem_append_left _ q) fun x q => List.mem_append_right _ q⟩
          · rcases List.mem_append.mp q with q | q
            · exact ⟨(l2 x q).1, (l2 x q).2.imp (List.mem_append_left _) (List.mem_append_left _)⟩
            · exact ⟨(m2 x q).1, (m2 x q).2.imp (fun z => List.mem_append_right _ (List.mem_append_left _ z)) fun z => List.mem_append_right _ (List.mem_append_left _ z)⟩
          · rcases List.mem_append.mp q with q | q
            · exact List.mem_append_left _ (l4 x q)
            · exact List.mem_append_right _ (List.mem_append_left _ (m4 x q))
        · cases h
  · cases h
theorem z3_of (r : RpAll K H vs as G C) (h : z3D as = some ds) : ∃ t1 a xs t2 b ys t3 c zs, vs = [.ref a, .ref b, .ref c] ∧ SrcAt K t1 a xs H ∧ SrcAt K t2 b ys H ∧ SrcAt K t3 c zs H ∧ Wk K H (ItRow K [(t1, a, xs), (t2, b, ys), (t3, c, zs)] (min (min xs.length ys.length) zs.length) (row3 xs ys zs)) ds G C := by
  unfold z3D at h
  split at h
  · rename_i d1 d2 d3
    cases r with
    | @cons v _ _ _ F1 F2 B1 B2 r1 rr dd =>
      cases rr with
      | @cons w _ _ _ F3 F4 B3 B4 r2 rr2 dd2 =>
        cases rr2 with
        | @cons u _ _ _ F5 F6 B5 B6 r3 r4 dd3 =>
          cases r4
          split at h
          · rename_i xs ys zs hx hy hz
            cases h
            obtain ⟨t1, a, vs, Cx, Ci, rfl, l1, l2, l3, l4⟩ := src_any r1 hx
            obtain ⟨t2, b, ws, Cy, Cj, rfl, m1, m2, m3, m4⟩ := src_any r2 hy
            obtain ⟨t3, c, us, Cz, Ck, rfl, n1, n2, n3, n4⟩ := src_any r3 hz
            refine ⟨t1, a, vs, t2, b, ws, t3, c, us, rfl, l1 H (Same.refl H).tups fun _ _ => rfl, m1 H (Same.refl H).tups fun _ _ => rfl, n1 H (Same.refl H).tups fun _ _ => rfl, Cx ++ (Cy ++ Cz), Ci ++ (Cj ++ Ck), fun x q => ?_, fun x q => ?_,
              itr_z3 l1 m1 n1 l3 m3 n3 (fun x q => List.mem_append_left _ q) (fun x q => List.mem_append_right _ (List.mem_append_left _ q)) (fun x q => List.mem_append_right _ (List.mem_append_right _ q)) (fun x q => List.mem_append_left _ q) (fun x q => List.mem_append_right _ (List.mem_append_left _ q)) fun x q => List.mem_append_right _ (List.mem_append_right _ q)⟩
            · rcases List.mem_append.mp q with q | q
              · exact ⟨(l2 x q).1, (l2 x q).2.imp (fun z => by simp [z]) fun z => by simp [z]⟩
              · rcases List.mem_append.mp q with q | q
                · exact ⟨(m2 x q).1, (m2 x q).2.imp (fun z => by simp [z]) fun z => by simp [z]⟩
                · exact ⟨(n2 x q).1, (n2 x q).2.imp (fun z => by simp [z]) fun z => by simp [z]⟩
            · rcases List.mem_append.mp q with q | q
              · have := l4 x q; simp [this]
              · rcases List.mem_append.mp q with q | q
                · have := m4 x q; simp [this]
                · have := n4 x q; simp [this]
          · cases h
  · cases h
theorem e1_of (r : RpAll K H vs as G C) (h : e1D as = some ds) : ∃ t1 a xs, vs = [.ref a] ∧ SrcAt K t1 a xs H ∧ Wk K H (ItRow K [(t1, a, xs)] xs.length (rowE 0 xs)) ds G C := by
  unfold e1D at h
  split at h
  · rename_i d1
    obtain ⟨xs, hx, rfl⟩ := Option.map_eq_some_iff.mp h
    obtain ⟨v, rfl, r1⟩ := RpAll.one' r
    obtain ⟨t1, a, vs, Cx, Ci, rfl, l1, l2, l3, l4⟩ := src_any r1 hx
    exact ⟨t1, a, vs, rfl, l1 H (Same.refl H).tups fun _ _ => rfl, Cx, Ci, l2, l4, itr_eI 0 l1 l3 (fun _ q => q) fun _ q => q⟩
  · cases h
theorem e2_of (r : RpAll K H vs as G C) (h : e2D as = some ds) : ∃ t1 a xs k, vs = [.ref a, .int k] ∧ -(2 ^ 63) ≤ k ∧ k < 2 ^ 63 ∧ SrcAt K t1 a xs H ∧ Wk K H (ItRow K [(t1, a, xs)] xs.length (rowE k xs)) ds G C := by
  unfold e2D at h
  split at h
  · rename_i d1 k
    split at h
    · rename_i hk
      have hk := lg_lt hk (by decide)
      obtain ⟨xs, hx, rfl⟩ := Option.map_eq_some_iff.mp h
      cases r with
      | @cons v _ _ _ F1 F2 B1 B2 r1 rr dd =>
        obtain ⟨w, rfl, r2⟩ := RpAll.one' rr
        obtain ⟨p2, _, _⟩ := r2.pure
        cases p2
        obtain ⟨t1, a, vs, Cx, Ci, rfl, l1, l2, l3, l4⟩ := src_any r1 hx
        refine ⟨t1, a, vs, k, rfl, by omega, by omega, l1 H (Same.refl H).tups fun _ _ => rfl, Cx, Ci, fun x q => ⟨(l2 x q).1, (l2 x q).2.imp (List.mem_append_left _) (List.mem_append_left _)⟩, fun x q => List.mem_append_left _ (l4 x q), itr_eI k l1 l3 (fun _ q => q) fun _ q => q⟩
    · cases h
  · cases h
end
def fWq (z : List DV → Option (List DV)) (q : En → Option (List DV)) : En → Option (List DV) := fun env => (q env).bind z
def fW (z : List DV → Option (List DV)) (q : En → Option (List DV)) : En → Option (List DV × En) := fun env => ((q env).bind z).map fun ds => (ds, env)
def wZ2 (K : PySem.W.Frag) (vs : List V) (H1 : Hp) (R : It → Hp → Prop) : Prop := ∃ t1 a xs t2 b ys, vs = [.ref a, .ref b] ∧ SrcAt K t1 a xs H1 ∧ SrcAt K t2 b ys H1 ∧ R (ItRow K [(t1, a, xs), (t2, b, ys)] (min xs.length ys.length) (row2 xs ys)) H1
def wZ3 (K : PySem.W.Frag) (vs : List V) (H1 : Hp) (R : It → Hp → Prop) : Prop := ∃ t1 a xs t2 b ys t3 c zs, vs = [.ref a, .ref b, .ref c] ∧ SrcAt K t1 a xs H1 ∧ SrcAt K t2 b ys H1 ∧ SrcAt K t3 c zs H1 ∧ R (ItRow K [(t1, a, xs), (t2, b, ys), (t3, c, zs)] (min (min xs.length ys.length) zs.length) (row3 xs ys zs)) H1
def wE1 (K : PySem.W.Frag) (vs : List V) (H1 : Hp) (R : It → Hp → Prop) : Prop := ∃ t1 a xs, vs = [.ref a] ∧ SrcAt K t1 a xs H1 ∧ R (ItRow K [(t1, a, xs)] xs.length (rowE 0 xs)) H1
def wE2 (K : PySem.W.Frag) (vs : List V) (H1 : Hp) (R : It → Hp → Prop) : Prop := ∃ t1 a xs k, vs = [.ref a, .int k] ∧ -(2 ^ 63) ≤ k ∧ k < 2 ^ 63 ∧ SrcAt K t1 a xs H1 ∧ R (ItRow K [(t1, a, xs)] xs.length (rowE k xs)) H1
section
variable {X : Cx} {a b e e2 e3 iter : Expr} {es : List Expr} {pos tpos p : Pos} {tg : Expr} {elts : List Expr} {kk : Nat} {q : En → Option (List DV)} {z : List DV → Option (List DV)} {W : List V → Hp → (It → Hp → Prop) → Prop}
theorem siq_wk (ha : SA X es q) (hp : ∀ ta, PA X es ta → PI X tg iter fun σ H R => ta σ H fun vs H1 => W vs H1 R) (hi : ∀ vs as ds H1 G C R, RpAll X.K H1 vs as G C → z as = some ds → (∀ J, Wk X.K H1 J ds G C → R J H1) → W vs H1 R) : SIq X tg iter (fWq z q) := by
  refine ⟨pi_imp (hp _ ha.pa) ?_⟩
  rintro σ H R ⟨env, F, B, ds, hS, dj, hf, k⟩
  obtain ⟨as, h1, h2⟩ := Option.bind_eq_some_iff.mp hf
  refine ⟨env, F, B, as, hS, dj, h1, fun vs H' G C sm r n c => hi vs as ds H' G C R r h2 fun J w => ?_⟩
  obtain ⟨Cx, Ci, w1, w2, w3⟩ := w
  exact k _ H' Cx Ci sm (fun x q => (w1 x q).1) (fun x q => c x (w2 x q)) w3
theorem si_wk (ha : SAR X es q) (hp : ∀ ta, PA X es ta → PI X tg iter fun σ H R => ta σ H fun vs H1 => W vs H1 R) (hi : ∀ vs as ds H1 G C R, RpAll X.K H1 vs as G C → z as = some ds → (∀ J, Wk X.K H1 J ds G C → R J H1) → W vs H1 R) : SI X tg iter (fW z q) := by
  refine ⟨pi_imp (hp _ ha.pa) ?_⟩
  rintro σ H R ⟨env, F, B, ds, env', hS, dj, hf, k⟩
  obtain ⟨ds', h0, h00⟩ := Option.map_eq_some_iff.mp hf
  cases h00
  obtain ⟨as, h1, h2⟩ := Option.bind_eq_some_iff.mp h0
  refine ⟨env, F, B, as, hS, dj, h1, fun vs H' G C sm r n c => hi vs as ds H' G C R r h2 fun J w => ?_⟩
  obtain ⟨Cx, Ci, w1, w2, w3⟩ := w
  refine k _ H' F B Cx B sm.keep (hS.same sm) Nw.self Sb.self (fun x q => ⟨fun y => ?_, (w1 x q).1⟩) (fun _ q => q) (w3.mono fun x q => c x (w2 x q))
  rcases (w1 x q).2 with u | u
  · obtain ⟨o, e, _⟩ := hS.own x y
    rw [n x u] at e; cases e
  · exact dj x y (c x u)
theorem w_z2 (vs as ds H1 G C) (R : It → Hp → Prop) (r : RpAll X.K H1 vs as G C) (h : z2D as = some ds) (f : ∀ J, Wk X.K H1 J ds G C → R J H1) : wZ2 X.K vs H1 R := by
  obtain ⟨t1, a, xs, t2, b, ys, e, h1, h2, w⟩ := z2_of r h
  exact ⟨t1, a, xs, t2, b, ys, e, h1, h2, f _ w⟩
theorem w_z3 (vs as ds H1 G C) (R : It → Hp → Prop) (r : RpAll X.K H1 vs as G C) (h : z3D as = some ds) (f : ∀ J, Wk X.K H1 J ds G C → R J H1) : wZ3 X.K vs H1 R := by
  obtain ⟨t1, a, xs, t2, b, ys, t3, c, zs, e, h1, h2, h3, w⟩ := z3_of r h
  exact ⟨t1, a, xs, t2, b, ys, t3, c, zs, e, h1, h2, h3, f _ w⟩
theorem w_e1 (vs as ds H1 G C) (R : It → Hp → Prop) (r : RpAll X.K H1 vs as G C) (h : e1D as = some ds) (f : ∀ J, Wk X.K H1 J ds G C → R J H1) : wE1 X.K vs H1 R := by
  obtain ⟨t1, a, xs, e, h1, w⟩ := e1_of r h
  exact ⟨t1, a, xs, e, h1, f _ w⟩
theorem w_e2 (vs as ds H1 G C) (R : It → Hp → Prop) (r : RpAll X.K H1 vs as G C) (h : e2D as = some ds) (f : ∀ J, Wk X.K H1 J ds G C → R J H1) : wE2 X.K vs H1 R := by
  obtain ⟨t1, a, xs, k, e, k0, k1, h1, w⟩ := e2_of r h
  exact ⟨t1, a, xs, k, e, k0, k1, h1, f _ w⟩
theorem siq_z2 (ha : SA X [e, e2] q) (hm : X.mg "zip" = none) (hg : Gl X "zip" := by rfl)
    (hs : starEach [e, e2] X.env = (false, eval e X.env) :: starEach [e2] X.env := by rfl) (hpl : (backTo pos (starEach [e2] X.env)).any (·.1) = false := by rfl) : SIq X (.Tuple elts kk tpos) (.Call (.Name "zip" p) [e, e2] [] pos) (fWq z2D q) :=
  siq_wk (W := wZ2 X.K) ha (fun ta h => pi_z2 hg hm h hs hpl) w_z2
theorem si_z2 (ha : SAR X [e, e2] q) (hm : X.mg "zip" = none) (hg : Gl X "zip" := by rfl)
    (hs : starEach [e, e2] X.env = (false, eval e X.env) :: starEach [e2] X.env := by rfl) (hpl : (backTo pos (starEach [e2] X.env)).any (·.1) = false := by rfl) : SI X (.Tuple elts kk tpos) (.Call (.Name "zip" p) [e, e2] [] pos) (fW z2D q) :=
  si_wk (W := wZ2 X.K) ha (fun ta h => pi_z2 hg hm h hs hpl) w_z2
theorem siq_z3 (ha : SA X [e, e2, e3] q) (hm : X.mg "zip" = none) (hg : Gl X "zip" := by rfl)
    (hs : starEach [e, e2, e3] X.env = (false, eval e X.env) :: starEach [e2, e3] X.env := by rfl) (hpl : (backTo pos (starEach [e2, e3] X.env)).any (·.1) = false := by rfl) : SIq X (.Tuple elts kk tpos) (.Call (.Name "zip" p) [e, e2, e3] [] pos) (fWq z3D q) :=
  siq_wk (W := wZ3 X.K) ha (fun ta h => pi_z3 hg hm h hs hpl) w_z3
theorem si_z3 (ha : SAR X [e, e2, e3] q) (hm : X.mg "zip" = none) (hg : Gl X "zip" := by rfl)
    (hs : starEach [e, e2, e3] X.env = (false, eval e X.env) :: starEach [e2, e3] X.env := by rfl) (hpl : (backTo pos (starEach [e2, e3] X.env)).any (·.1) = false := by rfl) : SI X (.Tuple elts kk tpos) (.Call (.Name "zip" p) [e, e2, e3] [] pos) (fW z3D q) :=
  si_wk (W := wZ3 X.K) ha (fun ta h => pi_z3 hg hm h hs hpl) w_z3
theorem siq_e1 (ha : SA X [e] q) (hm : X.mg "enumerate" = none) (hg : Gl X "enumerate" := by rfl) (hs : starEach [e] X.env = [(false, eval e X.env)] := by rfl) : SIq X (.Tuple elts kk tpos) (.Call (.Name "enumerate" p) [e] [] pos) (fWq e1D q) :=
  siq_wk (W := wE1 X.K) ha (fun ta h => pi_e1 hg hm h hs) w_e1
theorem si_e1 (ha : SAR X [e] q) (hm : X.mg "enumerate" = none) (hg : Gl X "enumerate" := by rfl) (hs : starEach [e] X.env = [(false, eval e X.env)] := by rfl) : SI X (.Tuple elts kk tpos) (.Call (.Name "enumerate" p) [e] [] pos) (fW e1D q) :=
  si_wk (W := wE1 X.K) ha (fun ta h => pi_e1 hg hm h hs) w_e1
theorem siq_e2 (ha : SA X [e, e2] q) (hm : X.mg "enumerate" = none) (hg : Gl X "enumerate" := by rfl)
    (hs : starEach [e, e2] X.env = (false, eval e X.env) :: starEach [e2] X.env := by rfl) (hpl : (backTo pos (starEach [e2] X.env)).any (·.1) = false := by rfl) : SIq X (.Tuple elts kk tpos) (.Call (.Name "enumerate" p) [e, e2] [] pos) (fWq e2D q) :=
  siq_wk (W := wE2 X.K) ha (fun ta h => pi_e2 hg hm h hs hpl) w_e2
theorem si_e2 (ha : SAR X [e, e2] q) (hm : X.mg "enumerate" = none) (hg : Gl X "enumerate" := by rfl)
    (hs : starEach [e, e2] X.env = (false, eval e X.env) :: starEach [e2] X.env := by rfl) (hpl : (backTo pos (starEach [e2] X.env)).any (·.1) = false := by rfl) : SI X (.Tuple elts kk tpos) (.Call (.Name "enumerate" p) [e, e2] [] pos) (fW e2D q) :=
  si_wk (W := wE2 X.K) ha (fun ta h => pi_e2 hg hm h hs hpl) w_e2
theorem sar_one {q : En → Option DV} {r : En → Option (List DV)} (h : SR X e q) (g : SAR X es r) (hs : starEach (e :: es) X.env = (false, eval e X.env) :: starEach es X.env := by rfl) : SAR X (e :: es) (aCons q r) := sar_cons h g hs
end
end Sm

set_option Elab.async false
set_option linter.all false
set_option maxRecDepth 100000
/-! S22: sum of tuples, min and max of one thing, sorted, [::-1]. -/
namespace Sm
open PySem PySem.Spec PyProof.Rows L2 RZ
section
variable {prog : Program} {w : World} {A : Around} {E : Value → Shared → Prop} {s : Shared}
theorem sum_tup_raw {l : Addr} {its : List Value} {ns : List Int} {Q : Value → Shared → Prop} (hh : A.handled = none) (hl : s.heap.IsTuple l its.toArray) (hi : IntsAre its ns)
    (h : ∀ h' tk t', (∀ b o, s.heap.get? b = some o → h'.get? b = some o) → Q (.int ns.sum t') { s with heap := h', toks := tk }) : wpAny (model prog w) A (call (.builtin "sum") [.ref l]) Q E s := by
  obtain ⟨xs, e⟩ := hi.allInts.items
  have hn : numsOf (intItems xs).toList = ns := by rw [← e]; exact hi.numsOf
  rw [nums_intItems] at hn
  rw [e] at hl
  have hlt : l < s.heap.objs.size := by obtain ⟨_, q, _⟩ := hl; exact Heap.lt_size q
  refine call_sum_walkG (wpAny_pyIter_tuple hl ?_)
  refine ⟨_, _, _, _, _, _, numAt xs, rfl, Walks.tuple (A := A.in1) hh _ l (Nat.ne_of_lt hlt) (intItems xs), ⟨⟨_, Heap.get?_push_size _ rfl, rfl, rfl⟩, hl.at fun o e => Heap.get?_push_of_some _ e⟩, fun b hb => ?_, (fun _ _ => intItems_at), fun h' tk t' hk => ?_⟩
  · show b < (s.heap.push _).objs.size
    rw [Heap.size_push]
    rcases List.mem_cons.mp hb with rfl | hb
    · exact Nat.lt_succ_self _
    · rcases List.mem_cons.mp hb with rfl | hb
      · exact Nat.lt_succ_of_lt hlt
      · cases hb
  · have := h h' tk t' fun b o e => hk b o (fun q => absurd (Heap.lt_size e) (by rw [List.mem_singleton.mp q]; exact Nat.lt_irrefl _)) (Heap.get?_push_of_some _ e)
    have e2 : (intItems xs).size = xs.size := by simp [intItems]
    rw [e2, preSum_eq, List.take_of_length_le (by simp), hn]
    exact this
end
def rSumT (K : PySem.W.Frag) : List V → Hp → VK → Prop := fun vs H Q => ∃ (t : Bool) (a : Addr) (ns : List Int), vs = [V.ref a] ∧ SrcAt K t a (ns.map V.int) H ∧ Q (.int ns.sum) H
def PV.lt (x y : PV) : Bool := PySem.W.dataLt x.toD y.toD
def minP (x : PV) (xs : List PV) : PV := xs.foldl (fun a y => if y.lt a then y else a) x
def maxP (x : PV) (xs : List PV) : PV := xs.foldl (fun a y => if a.lt y then y else a) x
def likes (xs : List PV) : Bool := (xs.all fun x => xs.all fun y => PySem.W.alike x.toD y.toD) && (xs.all fun x => match x with | .non => false | _ => true) && xs.all fun x => decide (x.toD.depth ≤ 60)
theorem toDs_map : ∀ xs : List PV, PV.toDs xs = xs.map PV.toD
  | [] => rfl
  | x :: xs => by simp [PV.toDs, toDs_map xs]
theorem likes_all {xs : List PV} (h : likes xs = true) : PySem.W.AlikeAll (xs.map PV.toD) ∧ ∀ x ∈ xs, x.toD.depth ≤ 60 := by
  simp only [likes, Bool.and_eq_true, List.all_eq_true, decide_eq_true_eq] at h
  obtain ⟨⟨h1, h2⟩, h3⟩ := h
  refine ⟨⟨fun x hx y hy => ?_, fun x hx => ?_⟩, h3⟩
  · obtain ⟨a, ha, rfl⟩ := List.mem_map.mp hx
    obtain ⟨b, hb, rfl⟩ := List.mem_map.mp hy
    exact h1 a ha b hb
  · obtain ⟨a, ha, rfl⟩ := List.mem_map.mp hx
    have := h2 a ha
    cases a with
    | non => simp at this
    | _ => simp [PV.toD]
theorem depthAll_le {n : Nat} : ∀ {xs : List PyData}, (∀ x ∈ xs, x.depth ≤ n) → PyData.depthAll xs ≤ n
  | [], _ => by simp [PyData.depthAll]
  | x :: xs, h => by
    rw [PyData.depthAll]
    exact Nat.max_le.mpr ⟨h x (by simp), depthAll_le fun y q => h y (by simp [q])⟩
theorem getD_toD {x : PV} {xs : List PV} (i : Nat) (hi : i < (x :: xs).length) : ((x :: xs).map PV.toD).getD i PyData.none = ((x :: xs).getD i .non).toD := by
  simp only [List.getD_eq_getElem?_getD, List.getElem?_map]
  rw [List.getElem?_eq_getElem hi]; rfl
/-- the index of the least, and that it is minP -/
theorem best_min (x : PV) (xs : List PV) : ∃ y, (x :: xs)[PySem.argBest (fun i j => PySem.W.dataLt (((x :: xs).map PV.toD).getD i PyData.none) (((x :: xs).map PV.toD).getD j PyData.none)) xs.length]? = some y ∧ y = minP x xs := by
  obtain ⟨i1, i2⟩ := PySem.W.argBest_fold (fun (a b : PV) => PySem.W.dataLt a.toD b.toD) PV.non x xs xs.length (Nat.le_refl _)
  have ef : (fun i j => PySem.W.dataLt (((x :: xs).map PV.toD).getD i PyData.none) (((x :: xs).map PV.toD).getD j PyData.none)) = fun i j => PySem.W.dataLt ((x :: xs).getD i PV.non).toD ((x :: xs).getD j PV.non).toD := by
    have g : ∀ i, ((x :: xs).map PV.toD).getD i PyData.none = ((x :: xs).getD i PV.non).toD := fun i => by
      simp only [List.getD_eq_getElem?_getD, List.getElem?_map]
      cases (x :: xs)[i]? <;> simp [PV.toD]
    funext i j; rw [g, g]
  rw [ef]
  rw [List.take_length] at i2
  have hl : PySem.argBest (fun i j => PySem.W.dataLt ((x :: xs).getD i PV.non).toD ((x :: xs).getD j PV.non).toD) xs.length < (x :: xs).length := Nat.lt_succ_of_le i1
  refine ⟨_, List.getElem?_eq_getElem hl, ?_⟩
  have : (x :: xs).getD (PySem.argBest (fun i j => PySem.W.dataLt ((x :: xs).getD i PV.non).toD ((x :: xs).getD j PV.non).toD) xs.length) PV.non = minP x xs := i2
  rw [List.getD_eq_getElem?_getD, List.getElem?_eq_getElem hl] at this
  exact this
theorem best_max (x : PV) (xs : List PV) : ∃ y, (x :: xs)[PySem.argBest (fun i j => PySem.W.dataLt (((x :: xs).map PV.toD).getD j PyData.none) (((x :: xs).map PV.toD).getD i PyData.none)) xs.length]? = some y ∧ y = maxP x xs := by
  obtain ⟨i1, i2⟩ := PySem.W.argBest_fold (fun (a b : PV) => PySem.W.dataLt b.toD a.toD) PV.non x xs xs.length (Nat.le_refl _)
  have ef : (fun i j => PySem.W.dataLt (((x :: xs).map PV.toD).getD j PyData.none) (((x :: xs).map PV.toD).getD i PyData.none)) = fun i j => PySem.W.dataLt ((x :: xs).getD j PV.non).toD ((x :: xs).getD i PV.non).toD := by
    have g : ∀ i, ((x :: xs).map PV.toD).getD i PyData.none = ((x :: xs).getD i PV.non).toD := fun i => by
      simp only [List.getD_eq_getElem?_getD, List.getElem?_map]
      cases (x :: xs)[i]? <;> simp [PV.toD]
    funext i j; rw [g, g]
  rw [ef]
  rw [List.take_length] at i2
  have hl : PySem.argBest (fun i j => PySem.W.dataLt ((x :: xs).getD j PV.non).toD ((x :: xs).getD i PV.non).toD) xs.length < (x :: xs).length := Nat.lt_succ_of_le i1
  refine ⟨_, List.getElem?_eq_getElem hl, ?_⟩
  have : (x :: xs).getD (PySem.argBest (fun i j => PySem.W.dataLt ((x :: xs).getD j PV.non).toD ((x :: xs).getD i PV.non).toD) xs.length) PV.non = maxP x xs := i2
  rw [List.getD_eq_getElem?_getD, List.getElem?_eq_getElem hl] at this
  exact this
def rBestP (K : PySem.W.Frag) (f : PV → List PV → PV) : List V → Hp → VK → Prop := fun vs H Q => ∃ (t : Bool) (a : Addr) (ws : List V) (x : PV) (xs : List PV), vs = [V.ref a] ∧ SrcAt K t a ws H ∧ RPs K H ws (x :: xs) ∧ likes (x :: xs) = true ∧ ∀ w, RP K H w (f x xs) → Q w H
theorem RPs.nth {K : PySem.W.Frag} {H : Hp} : ∀ {vs : List V} {xs : List PV} {i : Nat} {y : PV}, RPs K H vs xs → xs[i]? = some y → ∃ v, vs[i]? = some v ∧ RP K H v y
  | _, _, _, _, .nil, h => by simp at h
  | _, _, 0, _, .cons a b, h => by simp at h; subst h; exact ⟨_, rfl, a⟩
  | _, _, i + 1, _, .cons a b, h => by
    obtain ⟨v, h1, h2⟩ := RPs.nth (i := i) b (by simpa using h)
    exact ⟨v, by simpa using h1, h2⟩
section
variable {X : Cx}
theorem cr_sumT (hc : X.calm = true) : CallR X (.builtin "sum") (rSumT X.K) := by
  intro pins s σ H vs us Q I r h
  obtain ⟨t, a, ns, rfl, hs, q⟩ := h
  obtain ⟨its, rv, hl⟩ := inv_src I hs
  rw [Vals.ref1 r]
  cases t with
  | false => exact sum_raw (I.ok.hd hc) hl rv.ints fun h' tk t' hk => ⟨.int _, H, I.kept hk, ⟨_, rfl⟩, q⟩
  | true => exact sum_tup_raw (I.ok.hd hc) hl rv.ints fun h' tk t' hk => ⟨.int _, H, I.kept hk, ⟨_, rfl⟩, q⟩
theorem cr_minP (hc : X.calm = true) (hu : X.A.units + 64 < cLine) : CallR X (.builtin "min") (rBestP X.K minP) := by
  intro pins s σ H vs us Q I r h
  obtain ⟨t, a, ws, x, xs, rfl, hs, hr, hl, q⟩ := h
  obtain ⟨its, rv, raw⟩ := inv_src I hs
  rw [Vals.ref1 r]
  obtain ⟨ha, hd⟩ := likes_all hl
  obtain ⟨as, hrd⟩ := Dp.readsAll I _ ws its (RPs.dp hr) rv
  rw [toDs_map] at hrd
  have hn : its.toArray.size = xs.length + 1 := by have := PySem.W.readsAll_len (vs := its.toArray) (by simpa using hrd); simpa using this
  have hdep : PyData.depthAll ((x :: xs).map PV.toD) ≤ 60 := depthAll_le fun d hd' => by obtain ⟨y, hy, rfl⟩ := List.mem_map.mp hd'; exact hd y hy
  obtain ⟨y, hy, ey⟩ := best_min x xs
  obtain ⟨v, hv, rp⟩ := hr.nth hy
  subst ey
  obtain ⟨u, hu', ru⟩ := rv.get hv
  have done : ∀ (v' : Value) h' tk, its.toArray[PySem.argBest (fun i j => PySem.W.dataLt (((x :: xs).map PV.toD).getD i PyData.none) (((x :: xs).map PV.toD).getD j PyData.none)) (its.toArray.size - 1)]? = some v' → (∀ b o, s.heap.get? b = some o → h'.get? b = some o) → EP X pins σ Q v' { s with heap := h', toks := tk } := fun v' h' tk hP hk => by
    have e1 : its.toArray.size - 1 = xs.length := by omega
    rw [e1] at hP
    have : u = v' := by
      have hP' : its[PySem.argBest (fun i j => PySem.W.dataLt (((x :: xs).map PV.toD).getD i PyData.none) (((x :: xs).map PV.toD).getD j PyData.none)) xs.length]? = some v' := by simpa using hP
      rw [hu'] at hP'; exact Option.some.inj hP'
    subst this
    exact ⟨v, H, I.kept hk, ru, q v rp⟩
  cases t with
  | false =>
    refine call_min_walkH (PySem.W.iter_listW (A := X.A.in1) (I.ok.hd hc) raw fun s₂ e W st hfp hw hk => ?_)
    refine ⟨_, _, _, _, _, _, _, s.heap, (fun i j => PySem.W.dataLt (((x :: xs).map PV.toD).getD i PyData.none) (((x :: xs).map PV.toD).getD j PyData.none)), rfl, W, st, hfp, by omega, hw, hk, ?_, fun v' s' hP m => ?_⟩
    · exact PySem.W.cmpIn_lt (A := X.A.in1) (by simpa using hrd) ha (by show X.A.units + 1 + _ < _; omega)
    · obtain ⟨h', tk, rfl, hk'⟩ := PySem.W.moved_old e rfl m
      exact done v' h' tk hP hk'
  | true =>
    refine call_min_walkH (PySem.W.iter_tupleW (A := X.A.in1) (I.ok.hd hc) raw fun s₂ e W st hfp hw hk => ?_)
    refine ⟨_, _, _, _, _, _, _, s.heap, (fun i j => PySem.W.dataLt (((x :: xs).map PV.toD).getD i PyData.none) (((x :: xs).map PV.toD).getD j PyData.none)), rfl, W, st, hfp, by omega, hw, hk, ?_, fun v' s' hP m => ?_⟩
    · exact PySem.W.cmpIn_lt (A := X.A.in1) (by simpa using hrd) ha (by show X.A.units + 1 + _ < _; omega)
    · obtain ⟨h', tk, rfl, hk'⟩ := PySem.W.moved_old e rfl m
      exact done v' h' tk hP hk'
theorem cr_maxP (hc : X.calm = true) (hu : X.A.units + 64 < cLine) : CallR X (.builtin "max") (rBestP X.K maxP) := by
  intro pins s σ H vs us Q I r h
  obtain ⟨t, a, ws, x, xs, rfl, hs, hr, hl, q⟩ := h
  obtain ⟨its, rv, raw⟩ := inv_src I hs
  rw [Vals.ref1 r]
  obtain ⟨ha, hd⟩ := likes_all hl
  obtain ⟨as, hrd⟩ := Dp.readsAll I _ ws its (RPs.dp hr) rv
  rw [toDs_map] at hrd
  have hn : its.toArray.size = xs.length + 1 := by have := PySem.W.readsAll_len (vs := its.toArray) (by simpa using hrd); simpa using this
  have hdep : PyData.depthAll ((x :: xs).map PV.toD) ≤ 60 := depthAll_le fun d hd' => by obtain ⟨y, hy, rfl⟩ := List.mem_map.mp hd'; exact hd y hy
  obtain ⟨y, hy, ey⟩ := best_max x xs
  obtain ⟨v, hv, rp⟩ := hr.nth hy
  subst ey
  obtain ⟨u, hu', ru⟩ := rv.get hv
  have done : ∀ (v' : Value) h' tk, its.toArray[PySem.argBest (fun i j => PySem.W.dataLt (((x :: xs).map PV.toD).getD j PyData.none) (((x :: xs).map PV.toD).getD i PyData.none)) (its.toArray.size - 1)]? = some v' → (∀ b o, s.heap.get? b = some o → h'.get? b = some o) → EP X pins σ Q v' { s with heap := h', toks := tk } := fun v' h' tk hP hk => by
    have e1 : its.toArray.size - 1 = xs.length := by omega
    rw [e1] at hP
    have : u = v' := by
      have hP' : its[PySem.argBest (fun i j => PySem.W.dataLt (((x :: xs).map PV.toD).getD j PyData.none) (((x :: xs).map PV.toD).getD i PyData.none)) xs.length]? = some v' := by simpa using hP
      rw [hu'] at hP'; exact Option.some.inj hP'
    subst this
    exact ⟨v, H, I.kept hk, ru, q v rp⟩
  cases t with
  | false =>
    refine call_max_walkH (PySem.W.iter_listW (A := X.A.in1) (I.ok.hd hc) raw fun s₂ e W st hfp hw hk => ?_)
    refine ⟨_, _, _, _, _, _, _, s.heap, (fun i j => PySem.W.dataLt (((x :: xs).map PV.toD).getD j PyData.none) (((x :: xs).map PV.toD).getD i PyData.none)), rfl, W, st, hfp, by omega, hw, hk, ?_, fun v' s' hP m => ?_⟩
    · exact PySem.W.cmpIn_gt (A := X.A.in1) (by simpa using hrd) ha (by show X.A.units + 1 + _ < _; omega)
    · obtain ⟨h', tk, rfl, hk'⟩ := PySem.W.moved_old e rfl m
      exact done v' h' tk hP hk'
  | true =>
    refine call_max_walkH (PySem.W.iter_tupleW (A := X.A.in1) (I.ok.hd hc) raw fun s₂ e W st hfp hw hk => ?_)
    refine ⟨_, _, _, _, _, _, _, s.heap, (fun i j => PySem.W.dataLt (((x :: xs).map PV.toD).getD j PyData.none) (((x :: xs).map PV.toD).getD i PyData.none)), rfl, W, st, hfp, by omega, hw, hk, ?_, fun v' s' hP m => ?_⟩
    · exact PySem.W.cmpIn_gt (A := X.A.in1) (by simpa using hrd) ha (by show X.A.units + 1 + _ < _; omega)
    · obtain ⟨h', tk, rfl, hk'⟩ := PySem.W.moved_old e rfl m
      exact done v' h' tk hP hk'
end
end Sm

set_option Elab.async false
set_option linter.all false
set_option maxRecDepth 100000
/-! S23: the calls by values: sum, min, max, sorted, [::-1]. -/
namespace Sm
open PySem PySem.Spec PyProof.Rows L2 RZ
theorem src_seq {K : PySem.W.Frag} {H : Hp} {v : V} {d : DV} {xs : List PV} {G C : Fp} (r : Rp K H v d G C) (e : d.seq = some xs) : ∃ t a ws, v = .ref a ∧ SrcAt K t a ws H ∧ RPs K H ws xs := by
  obtain ⟨p, ws, rfl, _, h2, h3⟩ := seq_ok r e
  rcases h3 with ⟨_, h3⟩ | h3
  · exact ⟨true, p, ws, rfl, h3, h2⟩
  · exact ⟨false, p, ws, rfl, h3, h2⟩
def dSumA : List DV → Option DV
  | [d] => d.seq.bind fun xs => (intsOf xs).map fun ns => .p (.int ns.sum)
  | _ => none
def dMin1 : List DV → Option DV
  | [d] => d.seq.bind fun xs => match xs with
    | [] => none
    | x :: r => if likes (x :: r) then some (.p (minP x r)) else none
  | _ => none
def dMax1 : List DV → Option DV
  | [d] => d.seq.bind fun xs => match xs with
    | [] => none
    | x :: r => if likes (x :: r) then some (.p (maxP x r)) else none
  | _ => none
def DV.lsq : DV → Option (List PV)
  | .lst xs => some xs
  | .ro xs => some xs
  | .fz xs => some xs
  | _ => none
def tupNE : PV → Bool
  | .tup (_ :: _) => true
  | _ => false
def atomP : PV → Bool
  | .tup _ => false
  | .non => false
  | _ => true
def sortOk (xs : List PV) : Bool := xs.all tupNE || xs.all atomP
def sortP (xs : List PV) : List PV := xs.mergeSort fun a b => !(b.lt a)
def dSorted : List DV → Option DV
  | [d] => d.lsq.bind fun xs => if likes xs && sortOk xs then some (.lst (sortP xs)) else none
  | _ => none
def rSortV (K : PySem.W.Frag) : List V → Hp → VK → Prop := fun vs H Q => ∃ (a : Addr) (ws : List V) (xs : List PV), vs = [V.ref a] ∧ SqL K H a ws ∧ RPs K H ws xs ∧ likes xs = true ∧ sortOk xs = true ∧
  ∀ (ws' : List V) (p : Addr), RPs K H ws' (sortP xs) → H p = none → Q (.ref p) (upd H p (.lst ws'))
theorem each_zip {K : PySem.W.Frag} {H : Hp} : ∀ {ws : List V} {xs : List PV} {its : List Value}, RPs K H ws xs → Vals ws its → PySem.W.EachIs (fun u (b : V × PV) => RelV b.1 u ∧ RP K H b.1 b.2) its (ws.zip xs)
  | _, _, _, .nil, .nil => .nil
  | _, _, _, .cons a b, .cons r rr => .cons ⟨r, a⟩ (each_zip b rr)
theorem each_back {K : PySem.W.Frag} {H : Hp} : ∀ {out : List Value} {bs : List (V × PV)}, PySem.W.EachIs (fun u (b : V × PV) => RelV b.1 u ∧ RP K H b.1 b.2) out bs → Vals (bs.map Prod.fst) out ∧ RPs K H (bs.map Prod.fst) (bs.map Prod.snd)
  | _, _, .nil => ⟨.nil, .nil⟩
  | _, _, .cons h t => let ⟨a, b⟩ := each_back t; ⟨.cons h.1 a, .cons h.2 b⟩
theorem zip_snd {K : PySem.W.Frag} {H : Hp} : ∀ {ws : List V} {xs : List PV}, RPs K H ws xs → (ws.zip xs).map Prod.snd = xs
  | _, _, .nil => rfl
  | _, _, .cons a b => by simp [zip_snd b]
section
variable {X : Cx}
theorem cr_sortV (hu : X.A.units + 64 < cLine) : CallR X (.builtin "sorted") (rSortV X.K) := by
  intro pins s σ H vs us Q I r h
  obtain ⟨a, ws, xs, rfl, hs, hr, hl, hso, q⟩ := h
  obtain ⟨its, rv, hp, hz⟩ := I.list hs
  rw [Vals.ref1 r]
  obtain ⟨ha, hd⟩ := likes_all hl
  have e := each_zip hr rv
  have e2 : (ws.zip xs).map (fun b => b.2.toD) = xs.map PV.toD := by
    conv => rhs; rw [← zip_snd hr]
    simp
  have mem : ∀ b ∈ ws.zip xs, b.2 ∈ xs := fun b hb => by
    have : b.2 ∈ (ws.zip xs).map Prod.snd := List.mem_map.mpr ⟨b, hb, rfl⟩
    rwa [zip_snd hr] at this
  refine PySem.W.sorted_data (enc := fun b : V × PV => b.2.toD) hp.isList e (e.mono fun u b hb => Dp.reads I _ _ _ hb.2.dp hb.1) ?_ ?_ (by rw [← e.length, ← rv.length]; exact hz) (fun b hb => ?_) fun out ho hout => ?_
  · rw [e2]; exact fun d hd d' hd' => ha.1 d hd d' hd'
  · rw [e2]
    simp only [sortOk, Bool.or_eq_true, List.all_eq_true] at hso
    rcases hso with z | z
    · refine .inl fun d hd => ?_
      obtain ⟨y, hy, rfl⟩ := List.mem_map.mp hd
      have := z y hy
      match y, this with
      | .tup (x :: r), _ => exact ⟨x.toD, PV.toDs r, by simp only [PV.toD, PV.toDs]⟩
    · refine .inr fun d hd => ?_
      obtain ⟨y, hy, rfl⟩ := List.mem_map.mp hd
      have := z y hy
      cases y <;> simp [atomP, PV.toD] at this ⊢
  · have := hd _ (mem b hb)
    omega
  · obtain ⟨ep, he'⟩ := PyProof.Rows.sortedAll_at s.heap its (List.toArray out)
    obtain ⟨v1, v2⟩ := each_back hout
    have em : ((ws.zip xs).mergeSort (PySem.W.dataLe false fun b : V × PV => b.2.toD)).map Prod.snd = sortP xs := by
      rw [List.map_mergeSort (s := fun a b => !(PV.lt b a))]
      · rw [zip_snd hr]; rfl
      · intro a _ b _; rfl
    rw [em] at v2
    have hlen : (((ws.zip xs).mergeSort (PySem.W.dataLe false fun b : V × PV => b.2.toD)).map Prod.fst).length ≤ sizeLine := by
      rw [List.length_map, List.length_mergeSort, ← e.length, ← rv.length]; exact hz
    exact ⟨.ref _, upd H (s.heap.objs.size + 1) (.lst _), I.laid (t' := s.toks) (fun _ _ => PyProof.Rows.sortedAll_old) (Nat.le_succ _) ⟨hlen, out, ep, v1, he'⟩, rfl, q _ _ v2 (I.hok.fresh (Nat.le_succ _))⟩
theorem sca_sumA (hc : X.calm = true := by rfl) : SCa X (.builtin "sum") dSumA := by
  refine sca_of (cr_sumT hc) fun vs H Q ds G C d r e k => ?_
  unfold dSumA at e
  split at e
  · obtain ⟨xs, h1, e⟩ := Option.bind_eq_some_iff.mp e
    obtain ⟨ns, h4, rfl⟩ := Option.map_eq_some_iff.mp e
    obtain ⟨v, G1, C1, rfl, r1⟩ := RpAll.one r
    obtain ⟨t, a, ws, rfl, h2, h3⟩ := src_seq r1 h1
    rw [intsOf_eq h4] at h3
    rw [RPs.of_int h3] at h2
    exact ⟨t, a, ns, rfl, h2, k _ H [] (Same.refl H) (.p (.int _)) fun _ q => nomatch q⟩
  · cases e
theorem sca_min1 (hu : X.A.units + 64 < cLine) (hc : X.calm = true := by rfl) : SCa X (.builtin "min") dMin1 := by
  refine sca_of (cr_minP hc hu) fun vs H Q ds G C d r e k => ?_
  unfold dMin1 at e
  split at e
  · obtain ⟨xs, h1, e⟩ := Option.bind_eq_some_iff.mp e
    obtain ⟨v, G1, C1, rfl, r1⟩ := RpAll.one r
    obtain ⟨t, a, ws, rfl, h2, h3⟩ := src_seq r1 h1
    split at e
    · cases e
    · rename_i x r
      split at e
      · rename_i hl
        cases e
        exact ⟨t, a, ws, x, r, rfl, h2, h3, hl, fun w rp => k w H [] (Same.refl H) (.p rp) fun _ q => nomatch q⟩
      · cases e
  · cases e
theorem sca_max1 (hu : X.A.units + 64 < cLine) (hc : X.calm = true := by rfl) : SCa X (.builtin "max") dMax1 := by
  refine sca_of (cr_maxP hc hu) fun vs H Q ds G C d r e k => ?_
  unfold dMax1 at e
  split at e
  · obtain ⟨xs, h1, e⟩ := Option.bind_eq_some_iff.mp e
    obtain ⟨v, G1, C1, rfl, r1⟩ := RpAll.one r
    obtain ⟨t, a, ws, rfl, h2, h3⟩ := src_seq r1 h1
    split at e
    · cases e
    · rename_i x r
      split at e
      · rename_i hl
        cases e
        exact ⟨t, a, ws, x, r, rfl, h2, h3, hl, fun w rp => k w H [] (Same.refl H) (.p rp) fun _ q => nomatch q⟩
      · cases e
  · cases e
theorem lsq_ok {K : PySem.W.Frag} {H : Hp} {v : V} {d : DV} {xs : List PV} {G C : Fp} (r : Rp K H v d G C) (e : d.lsq = some xs) : ∃ a ws, v = .ref a ∧ SqL K H a ws ∧ RPs K H ws xs := by
  have e' : d.seq = some xs := by cases d <;> first | exact e | cases e
  obtain ⟨p, ws, rfl, _, h2, h3⟩ := seq_ok r e'
  rcases h3 with ⟨rfl, _⟩ | h3
  · cases e
  · exact ⟨p, ws, rfl, h3, h2⟩
theorem sca_sorted (hu : X.A.units + 64 < cLine) : SCa X (.builtin "sorted") dSorted := by
  refine sca_of (cr_sortV hu) fun vs H Q ds G C d r e k => ?_
  unfold dSorted at e
  split at e
  · obtain ⟨xs, h1, e⟩ := Option.bind_eq_some_iff.mp e
    obtain ⟨v, G1, C1, rfl, r1⟩ := RpAll.one r
    obtain ⟨a, ws, rfl, h2, h3⟩ := lsq_ok r1 h1
    split at e
    · rename_i hl
      rw [Bool.and_eq_true] at hl
      cases e
      refine ⟨a, ws, xs, rfl, h2, h3, hl.1, hl.2, fun ws' p h4 hp => ?_⟩
      have sm := same_upd (o := .lst ws') hp
      exact k _ _ [p] sm (.lst upd_same (h4.ext sm.tups)) fun a q => by simp at q; rw [q]; exact hp
    · cases e
  · cases e
def dRev : DV → Option DV := fun d => d.lsq.map fun xs => .lst xs.reverse
theorem RPs.rev {K : PySem.W.Frag} {H : Hp} {vs : List V} {xs : List PV} (r : RPs K H vs xs) : RPs K H vs.reverse xs.reverse := by
  have app : ∀ {a b : List V} {x y : List PV}, RPs K H a x → RPs K H b y → RPs K H (a ++ b) (x ++ y) := fun h g => by
    induction h using RPs.rec (motive_1 := fun _ _ _ => True) with
    | nil => exact g
    | cons a _ _ ih => exact .cons a ih
    | _ => trivial
  induction r using RPs.rec (motive_1 := fun _ _ _ => True) with
  | nil => exact .nil
  | cons a b _ ih => rw [List.reverse_cons, List.reverse_cons]; exact app ih (.cons a .nil)
  | _ => trivial
theorem sq_rev {e : Expr} {q : En → Option DV} {k : Nat} {p1 p2 p3 pos : Pos} (h : SQ X e q) : SQ X (.Subscript e (.Slice none none (some (.UnaryOp .USub (.Constant (.int 1) k p1) p2)) p3) pos) (qUn dRev q) := by
  refine ⟨pe_imp (pe_revL h.pe) ?_⟩
  rintro σ H Q ⟨env, F, B, d, hS, dj, hq, kk⟩
  unfold qUn at hq
  obtain ⟨d1, h1, h2⟩ := Option.bind_eq_some_iff.mp hq
  obtain ⟨xs, h3, rfl⟩ := Option.map_eq_some_iff.mp h2
  refine ⟨env, F, B, d1, hS, dj, h1, fun v H1 G C sm r n c => ?_⟩
  obtain ⟨a, ws, rfl, h4, h5⟩ := lsq_ok r h3
  refine ⟨a, ws, rfl, h4, fun p hp => ?_⟩
  have s2 := same_upd (o := .lst ws.reverse) hp
  exact kk _ _ [p] [] (sm.trans s2) (.lst upd_same (h5.rev.ext s2.tups)) (fun a z => by simp at z; rw [z]; exact sm.free hp) fun _ q => nomatch q
end
end Sm

set_option Elab.async false
set_option linter.all false
set_option maxRecDepth 100000
/-! S24: zip while its tuple is still out; list(zip(..)); enumerate(zip(..)). -/
namespace Sm
open PySem PySem.Spec PyProof.Rows L2 RZ
section
variable {prog : Program} {w : World} {A : Around} {E : Value → Shared → Prop} {s : Shared} {z TI TO T i1 i2 : Addr} {f : Bool} {oT : Obj} {fp1 fp2 : List Addr} {n1 n2 i : Nat} {P1 P2 : Nat → Value → Prop} {St1 St2 : Nat → Heap → Prop}
abbrev IsZipG (h : Heap) (z TI TO : Addr) (f0 : Value) (f : Bool) : Prop :=
  h.get? z = some { cls := .type "zip", dict := none, data := .fields #[f0, .bool f, .bool false, .ref TI, .ref TO], slots := #[] }
theorem dead_load {a : Addr} {Q : Option Obj → Shared → Prop} (ho : s.heap.get? a = none) (h : Q none s) : wpAny (model prog w) A (loadIfAlive a) Q E s := by
  have h' : Q (s.heap.get? a) s := by rw [ho]; exact h
  exact fun _ _ _ => h'
theorem owned_free {f0 : Value} {Q : Bool → Shared → Prop} (hz : IsZipG s.heap z TI TO f0 f) (hf : f0 = .none ∨ ∃ T : Addr, f0 = rawInt T ∧ s.heap.get? T = none) (h : Q true s) : wpAny (model prog w) A (Builtin.SmallTypes.ownedTupleIsFree (.ref z)) Q E s := by
  unfold Builtin.SmallTypes.ownedTupleIsFree
  refine wpAny_bind (wpAny_field hz rfl (x := f0) rfl ?_)
  rcases hf with rfl | ⟨T, rfl, hd⟩
  · exact wpAny_pure h
  · show wpAny _ _ (loadIfAlive ((T : Int).toNat) >>= _) _ _ _
    rw [Int.toNat_natCast]
    refine wpAny_bind (dead_load hd ?_)
    simp only [Option.isNone_none, if_true]
    exact wpAny_pure h
theorem zipG_next_item {f0 a1 a2 : Value} {Q : Value → Shared → Prop} (S : ZipSep2 z TI TO i1 i2 fp1 fp2) (D1 : Draws prog w A i1 fp1 n1 P1 St1) (D2 : Draws prog w A i2 fp2 n2 P2 St2)
    (hz : IsZipG s.heap z TI TO f0 f) (hf : f0 = .none ∨ ∃ T : Addr, f0 = rawInt T ∧ s.heap.get? T = none) (hTI : IsTupOf2 s.heap TI (.ref i1) (.ref i2)) (hTO : IsTupOf2 s.heap TO a1 a2) (st1 : St1 i s.heap) (st2 : St2 i s.heap) (hlt1 : i < n1) (hlt2 : i < n2)
    (hQ : ∀ x1 x2 h' tk, P1 i x1 → P2 i x2 → IsZipG h' z TI TO (rawInt s.heap.objs.size) false → IsTupOf2 h' TO x1 x2 → St1 (i + 1) h' → St2 (i + 1) h' → IsTupOf2 h' s.heap.objs.size x1 x2 → h'.objs.size = s.heap.objs.size + 1 →
      (∀ c o, c ≠ z → c ≠ TO → c ≠ i1 → c ≠ i2 → s.heap.get? c = some o → h'.get? c = some o) → Q (.ref s.heap.objs.size) { s with heap := h', toks := tk }) :
    wpAny (model prog w) A (Builtin.«zip.__next__» ⟨[.ref z], []⟩) (fun fin s' => ∃ v, fin = .done (.ret v) ∧ Q v s') E s := by
  obtain ⟨hp, g, d, tk0, os⟩ := s
  show wpAny _ _ (field (.ref z) 2 >>= _) _ _ _
  refine wpAny_bind (wpAny_field hz rfl (x := .bool false) rfl ?_)
  show wpAny _ _ (field (.ref z) 3 >>= _) _ _ _
  refine wpAny_bind (wpAny_field hz rfl (x := .ref TI) rfl ?_)
  refine wpAny_bind (wpAny_seqItems hTI rfl ?_)
  show wpAny _ _ (Builtin.SmallTypes.ownedTupleIsFree (.ref z) >>= _) _ _ _
  refine wpAny_bind (owned_free hz hf ?_)
  simp only [if_true]
  refine wpAny_bind (wpAny_rule ?_)
  refine wpAny_bind (wpAny_field hz rfl (x := .ref TO) rfl ?_)
  refine wpAny_bind (wpAny_setField_rec hz (by simp) fun g0 hz0 hs0 => ?_)
  replace hz0 : IsZipG g0 z TI TO .ellipsis f := hz0
  replace hs0 : Heap.SameBut z hp g0 := hs0
  refine wpAny_bind ?_
  simp only [List.zipIdx_cons, List.zipIdx_nil, List.forIn_cons, List.forIn_nil]
  refine wpAny_bind (wpAny_bind (wpAny_onRaise ?_))
  show wpAny _ _ (Builtin.SmallTypes.nextOf (.ref i1) >>= _) _ _ ⟨g0, g, d, tk0, os⟩
  refine wpAny_bind (D1.item i _ _ _ hlt1 (D1.over st1 hs0 S.zf1) fun x1 p1 tk1 hx1 sn1 hp1 => wpAny_pure ?_)
  replace hp1 : Heap.SameBut i1 g0 p1 := hp1
  have hU1 : IsTupOf2 p1 TO a1 a2 := hp1.extBut _ _ S.Ti1 (hs0.extBut _ _ S.TOz hTO)
  refine wpAny_bind (wpAny_seqItems (s := ⟨p1, g, d, tk1, os⟩) hU1 rfl ?_)
  refine wpAny_bind (updateSeq_IsTupOf2 (s := ⟨p1, g, d, tk1, os⟩) hU1 fun g1 hT1 hs1 => ?_)
  replace hT1 : IsTupOf2 g1 TO x1 a2 := hT1
  replace hs1 : Heap.SameBut TO p1 g1 := hs1
  refine wpAny_bind (wpAny_letGo (wpAny_pure ?_))
  refine wpAny_bind (wpAny_bind (wpAny_onRaise ?_))
  show wpAny _ _ (Builtin.SmallTypes.nextOf (.ref i2) >>= _) _ _ ⟨g1, g, d, tk1, os⟩
  refine wpAny_bind (D2.item i _ _ _ hlt2 (D2.over (D2.over (D2.over st2 hs0 S.zf2) hp1 S.sep1_2) hs1 S.Tf2) fun x2 p2 tk2 hx2 sn2 hp2 => wpAny_pure ?_)
  replace hp2 : Heap.SameBut i2 g1 p2 := hp2
  have hU2 : IsTupOf2 p2 TO x1 a2 := hp2.extBut _ _ S.Ti2 hT1
  refine wpAny_bind (wpAny_seqItems (s := ⟨p2, g, d, tk2, os⟩) hU2 rfl ?_)
  refine wpAny_bind (updateSeq_IsTupOf2 (s := ⟨p2, g, d, tk2, os⟩) hU2 fun g2 hT2 hs2 => ?_)
  replace hT2 : IsTupOf2 g2 TO x1 x2 := hT2
  replace hs2 : Heap.SameBut TO p2 g2 := hs2
  refine wpAny_bind (wpAny_letGo (wpAny_pure (wpAny_pure ?_)))
  refine wpAny_bind (wpAny_seqItems (s := ⟨g2, g, d, tk2, os⟩) hT2 rfl ?_)
  refine wpAny_bind (wpAny_newTuple ?_)
  have hsz : g2.objs.size = hp.objs.size := by rw [hs2.1, hp2.1, hs1.1, hp1.1, hs0.1]
  have hzz : IsZipG g2 z TI TO .ellipsis f := (hs2.extBut _ _ S.TOz.symm (hp2.extBut _ _ S.zi2 (hs1.extBut _ _ S.TOz.symm (hp1.extBut _ _ S.zi1 hz0))))
  have hkk : ∀ c o, c ≠ z → c ≠ TO → c ≠ i1 → c ≠ i2 → hp.get? c = some o → g2.get? c = some o := fun c o cz cT c1 c2 e =>
    (hs2.extBut _ _ cT (hp2.extBut _ _ c2 (hs1.extBut _ _ cT (hp1.extBut _ _ c1 (hs0.extBut _ _ cz e)))))
  have hj1 : St1 (i + 1) g2 := (D1.over (D1.over (D1.over sn1 hs1 S.Tf1) hp2 S.sep2_1) hs2 S.Tf1)
  have hj2 : St2 (i + 1) g2 := (D2.over sn2 hs2 S.Tf2)
  have hzlt : z < g2.objs.size := Heap.lt_size hzz
  show wpAny _ _ (Builtin.SmallTypes.ownedTupleHandOut (.ref z) (.ref g2.objs.size) >>= _) _ _ ⟨g2.push { cls := .type "tuple", data := .seq #[x1, x2] }, g, d, tk2, os⟩
  refine wpAny_bind ?_
  unfold Builtin.SmallTypes.ownedTupleHandOut
  have hz₆ : IsZipG (g2.push { cls := .type "tuple", data := .seq #[x1, x2] }) z TI TO .ellipsis f := Heap.get?_push_of_some _ hzz
  refine wpAny_bind (wpAny_setField_rec hz₆ (by simp) fun h₇ hz₇ hs₇ => ?_)
  replace hz₇ : IsZipG h₇ z TI TO (rawInt g2.objs.size) f := hz₇
  refine wpAny_setField_rec hz₇ (by simp) fun h₈ hz₈ hs₈ => ?_
  replace hz₈ : IsZipG h₈ z TI TO (rawInt g2.objs.size) false := hz₈
  replace hs₇ : Heap.SameBut z (g2.push { cls := .type "tuple", data := .seq #[x1, x2] }) h₇ := hs₇
  replace hs₈ : Heap.SameBut z h₇ h₈ := hs₈
  have up : ∀ c o, c ≠ z → g2.get? c = some o → h₈.get? c = some o := fun c o c1 e => hs₈.extBut _ _ c1 (hs₇.extBut _ _ c1 (Heap.get?_push_of_some _ e))
  have hT₈ : IsTupOf2 h₈ g2.objs.size x1 x2 := hs₈.extBut _ _ (Nat.ne_of_gt hzlt) (hs₇.extBut _ _ (Nat.ne_of_gt hzlt) (Heap.get?_push_size _ rfl))
  have hz8 : h₈.objs.size = g2.objs.size + 1 := by rw [hs₈.1, hs₇.1, Heap.size_push]
  rw [hsz] at hz₈ hT₈ hz8
  refine wpAny_pure ⟨_, rfl, ?_⟩
  show Q (.ref g2.objs.size) ⟨h₈, g, d, tk2, os⟩
  rw [hsz]
  exact hQ x1 x2 h₈ tk2 hx1 hx2 hz₈ (up _ _ S.TOz hT2) (D1.frame _ _ _ hj1 fun b hb o e => up b o (fun q => S.zf1 (q ▸ hb)) e) (D2.frame _ _ _ hj2 fun b hb o e => up b o (fun q => S.zf2 (q ▸ hb)) e) hT₈ hz8 fun c o cz cT c1 c2 e => up c o cz (hkk c o cz cT c1 c2 e)
theorem zipG_next_end {f0 a1 a2 : Value} {Q : Fin → Shared → Prop} (S : ZipSep2 z TI TO i1 i2 fp1 fp2) (D1 : Draws prog w A i1 fp1 n1 P1 St1) (D2 : Draws prog w A i2 fp2 n2 P2 St2)
    (hz : IsZipG s.heap z TI TO f0 f) (hf : f0 = .none ∨ ∃ T : Addr, f0 = rawInt T ∧ s.heap.get? T = none) (hTI : IsTupOf2 s.heap TI (.ref i1) (.ref i2)) (hTO : IsTupOf2 s.heap TO a1 a2) (st1 : St1 i s.heap) (st2 : St2 i s.heap) (hle1 : i ≤ n1) (hle2 : i ≤ n2) (hend : i = n1 ∨ i = n2)
    (hE : ∀ h' tk e, (∀ c o, c ≠ z → c ≠ TO → c ≠ i1 → c ≠ i2 → s.heap.get? c = some o → h'.get? c = some o) → (∃ o, h'.get? e = some o ∧ o.cls = .type "StopIteration") → E (.ref e) { s with heap := h', toks := tk }) :
    wpAny (model prog w) A (Builtin.«zip.__next__» ⟨[.ref z], []⟩) Q E s := by
  obtain ⟨hp, g, d, tk0, os⟩ := s
  show wpAny _ _ (field (.ref z) 2 >>= _) _ _ _
  refine wpAny_bind (wpAny_field hz rfl (x := .bool false) rfl ?_)
  show wpAny _ _ (field (.ref z) 3 >>= _) _ _ _
  refine wpAny_bind (wpAny_field hz rfl (x := .ref TI) rfl ?_)
  refine wpAny_bind (wpAny_seqItems hTI rfl ?_)
  show wpAny _ _ (Builtin.SmallTypes.ownedTupleIsFree (.ref z) >>= _) _ _ _
  refine wpAny_bind (owned_free hz hf ?_)
  simp only [if_true]
  refine wpAny_bind (wpAny_rule ?_)
  refine wpAny_bind (wpAny_field hz rfl (x := .ref TO) rfl ?_)
  refine wpAny_bind (wpAny_setField_rec hz (by simp) fun g0 hz0 hs0 => ?_)
  replace hz0 : IsZipG g0 z TI TO .ellipsis f := hz0
  replace hs0 : Heap.SameBut z hp g0 := hs0
  refine wpAny_bind ?_
  simp only [List.zipIdx_cons, List.zipIdx_nil, List.forIn_cons, List.forIn_nil]
  refine wpAny_bind (wpAny_bind (wpAny_onRaise ?_))
  show wpAny _ _ (Builtin.SmallTypes.nextOf (.ref i1) >>= _) _ _ ⟨g0, g, d, tk0, os⟩
  by_cases hlt1 : i < n1
  · refine wpAny_bind (D1.item i _ _ _ hlt1 (D1.over st1 hs0 S.zf1) fun x1 p1 tk1 hx1 sn1 hp1 => wpAny_pure ?_)
    replace hp1 : Heap.SameBut i1 g0 p1 := hp1
    have hU1 : IsTupOf2 p1 TO a1 a2 := hp1.extBut _ _ S.Ti1 (hs0.extBut _ _ S.TOz hTO)
    refine wpAny_bind (wpAny_seqItems (s := ⟨p1, g, d, tk1, os⟩) hU1 rfl ?_)
    refine wpAny_bind (updateSeq_IsTupOf2 (s := ⟨p1, g, d, tk1, os⟩) hU1 fun g1 hT1 hs1 => ?_)
    replace hT1 : IsTupOf2 g1 TO x1 a2 := hT1
    replace hs1 : Heap.SameBut TO p1 g1 := hs1
    refine wpAny_bind (wpAny_letGo (wpAny_pure ?_))
    have hi2 : i = n2 := by omega
    refine wpAny_bind (wpAny_bind (wpAny_onRaise ?_))
    show wpAny _ _ (Builtin.SmallTypes.nextOf (.ref i2) >>= _) _ _ ⟨g1, g, d, tk1, os⟩
    refine wpAny_bind (D2.done ⟨g1, g, d, tk1, os⟩ _ _ (by rw [← hi2]; exact (D2.over (D2.over (D2.over st2 hs0 S.zf2) hp1 S.sep1_2) hs1 S.Tf2)) fun q e hq he => ?_)
    replace hq : Heap.ExtBut i2 g1 q := hq
    obtain ⟨oe, hoe, hce⟩ := he
    replace hoe : q.get? e = some oe := hoe
    have hzq : IsZipG q z TI TO .ellipsis f := hq _ _ S.zi2 (hs1.extBut _ _ S.TOz.symm (hp1.extBut _ _ S.zi1 hz0))
    have hez : e ≠ z := fun x => by subst x; rw [hzq] at hoe; cases hoe; simp at hce
    refine wpAny_setField_rec (s := ⟨q, g, d, tk1, os⟩) hzq (by simp) fun q' _ hq' => ?_
    replace hq' : Heap.SameBut z q q' := hq'
    exact hE q' tk1 e (fun c o cz cT c1 c2 x => hq'.extBut _ _ cz (hq _ _ c2 (hs1.extBut _ _ cT (hp1.extBut _ _ c1 (hs0.extBut _ _ cz x))))) ⟨oe, hq'.extBut _ _ hez hoe, hce⟩
  · have hi1 : i = n1 := by omega
    refine wpAny_bind (D1.done ⟨g0, g, d, tk0, os⟩ _ _ (by rw [← hi1]; exact (D1.over st1 hs0 S.zf1)) fun q e hq he => ?_)
    replace hq : Heap.ExtBut i1 g0 q := hq
    obtain ⟨oe, hoe, hce⟩ := he
    replace hoe : q.get? e = some oe := hoe
    have hzq : IsZipG q z TI TO .ellipsis f := hq _ _ S.zi1 hz0
    have hez : e ≠ z := fun x => by subst x; rw [hzq] at hoe; cases hoe; simp at hce
    refine wpAny_setField_rec (s := ⟨q, g, d, tk0, os⟩) hzq (by simp) fun q' _ hq' => ?_
    replace hq' : Heap.SameBut z q q' := hq'
    exact hE q' tk0 e (fun c o cz cT c1 c2 x => hq'.extBut _ _ cz (hq _ _ c1 (hs0.extBut _ _ cz x))) ⟨oe, hq'.extBut _ _ hez hoe, hce⟩
theorem zipH_next_item {Q : Value → Shared → Prop} (S : ZipSep2 z TI TO i1 i2 fp1 fp2) (D1 : Draws prog w A i1 fp1 n1 P1 St1) (D2 : Draws prog w A i2 fp2 n2 P2 St2)
    (hz : IsZipHeld s.heap z TI TO T f) (hT : s.heap.get? T = some oT) (hTI : IsTupOf2 s.heap TI (.ref i1) (.ref i2)) (st1 : St1 i s.heap) (st2 : St2 i s.heap) (hlt1 : i < n1) (hlt2 : i < n2)
    (hQ : ∀ x1 x2 h' tk, P1 i x1 → P2 i x2 → IsZipHeld h' z TI TO T true → St1 (i + 1) h' → St2 (i + 1) h' → IsTupOf2 h' s.heap.objs.size x1 x2 → h'.objs.size = s.heap.objs.size + 1 →
      (∀ c o, c ≠ z → c ≠ i1 → c ≠ i2 → s.heap.get? c = some o → h'.get? c = some o) → Q (.ref s.heap.objs.size) { s with heap := h', toks := tk }) :
    wpAny (model prog w) A (Builtin.«zip.__next__» ⟨[.ref z], []⟩) (fun fin s' => ∃ v, fin = .done (.ret v) ∧ Q v s') E s := by
  obtain ⟨hp, g, d, tk0, os⟩ := s
  show wpAny _ _ (field (.ref z) 2 >>= _) _ _ _
  refine wpAny_bind (wpAny_field hz rfl (x := .bool false) rfl ?_)
  show wpAny _ _ (field (.ref z) 3 >>= _) _ _ _
  refine wpAny_bind (wpAny_field hz rfl (x := .ref TI) rfl ?_)
  refine wpAny_bind (wpAny_seqItems hTI rfl ?_)
  show wpAny _ _ (Builtin.SmallTypes.ownedTupleIsFree (.ref z) >>= _) _ _ _
  refine wpAny_bind (wpAny_tupleHeld_zip hz hT fun h₁ hz₁ hs₁ => ?_)
  replace hs₁ : Heap.SameBut z hp h₁ := hs₁
  simp only [Bool.false_eq_true, if_false]
  refine wpAny_bind ?_
  rw [← Array.forIn_toList]
  simp only [List.forIn_cons, List.forIn_nil]
  refine wpAny_bind (wpAny_bind (wpAny_holding ?_))
  show wpAny _ _ (Builtin.SmallTypes.nextOf (.ref i1) >>= _) _ _ ⟨h₁, g, d, tk0, os⟩
  refine wpAny_bind (D1.item i _ _ _ hlt1 (D1.over st1 hs₁ S.zf1) fun x1 p1 tk1 hx1 sn1 hp1 => wpAny_pure ?_)
  replace hp1 : Heap.SameBut i1 h₁ p1 := hp1
  refine wpAny_pure ?_
  refine wpAny_bind (wpAny_bind (wpAny_holding ?_))
  show wpAny _ _ (Builtin.SmallTypes.nextOf (.ref i2) >>= _) _ _ ⟨p1, g, d, tk1, os⟩
  refine wpAny_bind (D2.item i _ _ _ hlt2 (D2.over (D2.over st2 hs₁ S.zf2) hp1 S.sep1_2) fun x2 p2 tk2 hx2 sn2 hp2 => wpAny_pure ?_)
  replace hp2 : Heap.SameBut i2 p1 p2 := hp2
  refine wpAny_pure (wpAny_pure ?_)
  show wpAny _ _ (newTuple [x1, x2] >>= _) _ _ ⟨p2, g, d, tk2, os⟩
  refine wpAny_bind (wpAny_newTuple ?_)
  have hsz : p2.objs.size = hp.objs.size := by rw [hp2.1, hp1.1, hs₁.1]
  have hz₃ : IsZipHeld p2 z TI TO T true := hp2.extBut _ _ S.zi2 (hp1.extBut _ _ S.zi1 hz₁)
  have hk : ∀ c o, c ≠ z → c ≠ i1 → c ≠ i2 → hp.get? c = some o → p2.get? c = some o := fun c o c1 c2 c3 e => hp2.extBut _ _ c3 (hp1.extBut _ _ c2 (hs₁.extBut _ _ c1 e))
  refine wpAny_pure ⟨_, rfl, ?_⟩
  show Q (.ref p2.objs.size) _
  have hp' : IsTupOf2 (p2.push { cls := .type "tuple", data := .seq #[x1, x2] }) p2.objs.size x1 x2 := Heap.get?_push_size _ rfl
  have hz4 : (p2.push { cls := .type "tuple", data := .seq #[x1, x2] }).objs.size = p2.objs.size + 1 := Heap.size_push ..
  rw [hsz] at hp' hz4 ⊢
  exact hQ x1 x2 _ tk2 hx1 hx2 (Heap.get?_push_of_some _ hz₃) (D1.frame _ _ _ (D1.over sn1 hp2 S.sep2_1) fun b _ o e => Heap.get?_push_of_some _ e) (D2.frame _ _ _ sn2 fun b _ o e => Heap.get?_push_of_some _ e) hp' hz4 fun c o c1 c2 c3 e => Heap.get?_push_of_some _ (hk c o c1 c2 c3 e)
theorem zipH_next_end {Q : Fin → Shared → Prop} (S : ZipSep2 z TI TO i1 i2 fp1 fp2) (D1 : Draws prog w A i1 fp1 n1 P1 St1) (D2 : Draws prog w A i2 fp2 n2 P2 St2)
    (hz : IsZipHeld s.heap z TI TO T f) (hT : s.heap.get? T = some oT) (hTI : IsTupOf2 s.heap TI (.ref i1) (.ref i2)) (st1 : St1 i s.heap) (st2 : St2 i s.heap) (hle1 : i ≤ n1) (hle2 : i ≤ n2) (hend : i = n1 ∨ i = n2)
    (hE : ∀ h' tk e, (∀ c o, c ≠ z → c ≠ TO → c ≠ i1 → c ≠ i2 → s.heap.get? c = some o → h'.get? c = some o) → (∃ o, h'.get? e = some o ∧ o.cls = .type "StopIteration") → E (.ref e) { s with heap := h', toks := tk }) :
    wpAny (model prog w) A (Builtin.«zip.__next__» ⟨[.ref z], []⟩) Q E s := by
  obtain ⟨hp, g, d, tk0, os⟩ := s
  show wpAny _ _ (field (.ref z) 2 >>= _) _ _ _
  refine wpAny_bind (wpAny_field hz rfl (x := .bool false) rfl ?_)
  show wpAny _ _ (field (.ref z) 3 >>= _) _ _ _
  refine wpAny_bind (wpAny_field hz rfl (x := .ref TI) rfl ?_)
  refine wpAny_bind (wpAny_seqItems hTI rfl ?_)
  show wpAny _ _ (Builtin.SmallTypes.ownedTupleIsFree (.ref z) >>= _) _ _ _
  refine wpAny_bind (wpAny_tupleHeld_zip hz hT fun h₁ hz₁ hs₁ => ?_)
  replace hs₁ : Heap.SameBut z hp h₁ := hs₁
  simp only [Bool.false_eq_true, if_false]
  refine wpAny_bind ?_
  rw [← Array.forIn_toList]
  simp only [List.forIn_cons, List.forIn_nil]
  refine wpAny_bind (wpAny_bind (wpAny_holding ?_))
  show wpAny _ _ (Builtin.SmallTypes.nextOf (.ref i1) >>= _) _ _ ⟨h₁, g, d, tk0, os⟩
  by_cases hlt1 : i < n1
  · refine wpAny_bind (D1.item i _ _ _ hlt1 (D1.over st1 hs₁ S.zf1) fun x1 p1 tk1 hx1 sn1 hp1 => wpAny_pure ?_)
    replace hp1 : Heap.SameBut i1 h₁ p1 := hp1
    refine wpAny_pure ?_
    refine wpAny_bind (wpAny_bind (wpAny_holding ?_))
    show wpAny _ _ (Builtin.SmallTypes.nextOf (.ref i2) >>= _) _ _ ⟨p1, g, d, tk1, os⟩
    have hi2 : i = n2 := by omega
    refine wpAny_bind (D2.done ⟨p1, g, d, tk1, os⟩ _ _ (by rw [← hi2]; exact (D2.over (D2.over st2 hs₁ S.zf2) hp1 S.sep1_2)) fun q e hq he => ?_)
    replace hq : Heap.ExtBut i2 p1 q := hq
    exact hE q tk1 e (fun c o cz cT c1 c2 x => hq _ _ c2 (hp1.extBut _ _ c1 (hs₁.extBut _ _ cz x))) he
  · have hi1 : i = n1 := by omega
    refine wpAny_bind (D1.done ⟨h₁, g, d, tk0, os⟩ _ _ (by rw [← hi1]; exact (D1.over st1 hs₁ S.zf1)) fun q e hq he => ?_)
    replace hq : Heap.ExtBut i1 h₁ q := hq
    exact hE q tk0 e (fun c o cz cT c1 c2 x => hq _ _ c1 (hs₁.extBut _ _ cz x)) he
end
/-- a zip over two sources, its tuple in or out, or gone -/
def ZTn (t1 t2 : Bool) (a b N : Addr) (n i : Nat) (h : Heap) : Prop :=
  i ≤ n ∧ (∃ f0 f, IsZipG h (N + 4) (N + 2) (N + 3) f0 f ∧ (f0 = .none ∨ ∃ T : Addr, f0 = rawInt T)) ∧
    IsTupOf2 h (N + 2) (.ref N) (.ref (N + 1)) ∧ (∃ a1 a2, IsTupOf2 h (N + 3) a1 a2) ∧ CurAt h t1 N a i ∧ CurAt h t2 (N + 1) b i
section
variable {prog : Program} {w : World} {A : Around} {E : Value → Shared → Prop} {s : Shared} {t1 t2 : Bool} {a b N : Addr} {n i : Nat} {l1 l2 : Array Value}
theorem zsep (ha : a < N) (hb : b < N) : ZipSep2 (N + 4) (N + 2) (N + 3) N (N + 1) [N, a] [N + 1, b] :=
  zip_sep2 (N := N) (fp1 := [a]) (fp2 := [b]) (fun c q => by rw [List.mem_singleton.mp q]; exact ha) (fun c q => by rw [List.mem_singleton.mp q]; exact hb)
theorem ztn_item {x y : Value} {Q : Value → Shared → Prop} (hA : A.handled = none) (ha : a < N) (hb : b < N) (hz : ZTn t1 t2 a b N n i s.heap) (r1 : SrcRaw s.heap t1 a l1) (r2 : SrcRaw s.heap t2 b l2)
    (e1 : l1[i]? = some x) (e2 : l2[i]? = some y) (hn : i < n)
    (hQ : ∀ h' tk, ZTn t1 t2 a b N n (i + 1) h' → IsTupOf2 h' s.heap.objs.size x y → h'.objs.size = s.heap.objs.size + 1 → (∀ c o, c ≠ N + 4 → c ≠ N + 3 → c ≠ N → c ≠ N + 1 → s.heap.get? c = some o → h'.get? c = some o) → Q (.ref s.heap.objs.size) { s with heap := h', toks := tk }) :
    wpAny (model prog w) A (Builtin.«zip.__next__» ⟨[.ref (N + 4)], []⟩) (fun fin s' => ∃ v, fin = .done (.ret v) ∧ Q v s') E s := by
  obtain ⟨_, hzz, hTI, ⟨a1, a2, hTO⟩, c1, c2⟩ := hz
  have D1 := draws_src (prog := prog) (w := w) hA t1 N a (Nat.ne_of_lt ha) l1
  have D2 := draws_src (prog := prog) (w := w) hA t2 (N + 1) b (Nat.ne_of_lt (Nat.lt_succ_of_lt hb)) l2
  have hl1 : i < l1.size := (Array.getElem?_eq_some_iff.mp e1).1
  have hl2 : i < l2.size := (Array.getElem?_eq_some_iff.mp e2).1
  obtain ⟨o1, h1, _⟩ := c1.obj
  obtain ⟨o2, h2, _⟩ := c2.obj
  obtain ⟨f0, f, hz, hf⟩ := hzz
  have dead : (f0 = .none ∨ ∃ T : Addr, f0 = rawInt T ∧ s.heap.get? T = none) ∨ ∃ (T : Addr) (oT : Obj), f0 = rawInt T ∧ s.heap.get? T = some oT := by
    rcases hf with rfl | ⟨T, rfl⟩
    · exact .inl (.inl rfl)
    · cases e : s.heap.get? T with
      | none => exact .inl (.inr ⟨T, rfl, e⟩)
      | some oT => exact .inr ⟨T, oT, rfl, e⟩
  rcases dead with hd | ⟨T, oT, rfl, hT⟩
  · refine zipG_next_item (zsep ha hb) D1 D2 hz hd hTI hTO ⟨c1, r1⟩ ⟨c2, r2⟩ hl1 hl2 fun x1 x2 h' tk q1 q2 hz' hTO' s1 s2 hT' hsz hk => ?_
    have : x = x1 := Option.some.inj (e1.symm.trans q1)
    subst this
    have : y = x2 := Option.some.inj (e2.symm.trans q2)
    subst this
    exact hQ h' tk ⟨hn, ⟨_, _, hz', .inr ⟨_, rfl⟩⟩, hk _ _ (zsep ha hb).TIz (zsep ha hb).TITO (zsep ha hb).TIi1 (zsep ha hb).TIi2 hTI, ⟨_, _, hTO'⟩, s1.1, s2.1⟩ hT' hsz hk
  · refine zipH_next_item (zsep ha hb) D1 D2 hz hT hTI ⟨c1, r1⟩ ⟨c2, r2⟩ hl1 hl2 fun x1 x2 h' tk q1 q2 hz' s1 s2 hT' hsz hk => ?_
    have : x = x1 := Option.some.inj (e1.symm.trans q1)
    subst this
    have : y = x2 := Option.some.inj (e2.symm.trans q2)
    subst this
    exact hQ h' tk ⟨hn, ⟨_, _, hz', .inr ⟨T, rfl⟩⟩, hk _ _ (zsep ha hb).TIz (zsep ha hb).TIi1 (zsep ha hb).TIi2 hTI, ⟨_, _, hk _ _ (zsep ha hb).TOz (zsep ha hb).Ti1 (zsep ha hb).Ti2 hTO⟩, s1.1, s2.1⟩ hT' hsz fun c o k1 _ k3 k4 => hk c o k1 k3 k4
theorem ztn_end {Q : Fin → Shared → Prop} (hA : A.handled = none) (ha : a < N) (hb : b < N) (hz : ZTn t1 t2 a b N n i s.heap) (r1 : SrcRaw s.heap t1 a l1) (r2 : SrcRaw s.heap t2 b l2)
    (en : n = min l1.size l2.size) (hn : n ≤ i)
    (hE : ∀ h' tk e, (∀ c o, c ≠ N + 4 → c ≠ N + 3 → c ≠ N → c ≠ N + 1 → s.heap.get? c = some o → h'.get? c = some o) → (∃ o, h'.get? e = some o ∧ o.cls = .type "StopIteration") → E (.ref e) { s with heap := h', toks := tk }) :
    wpAny (model prog w) A (Builtin.«zip.__next__» ⟨[.ref (N + 4)], []⟩) Q E s := by
  obtain ⟨hi, hzz, hTI, ⟨a1, a2, hTO⟩, c1, c2⟩ := hz
  have D1 := draws_src (prog := prog) (w := w) hA t1 N a (Nat.ne_of_lt ha) l1
  have D2 := draws_src (prog := prog) (w := w) hA t2 (N + 1) b (Nat.ne_of_lt (Nat.lt_succ_of_lt hb)) l2
  obtain ⟨f0, f, hz, hf⟩ := hzz
  have dead : (f0 = .none ∨ ∃ T : Addr, f0 = rawInt T ∧ s.heap.get? T = none) ∨ ∃ (T : Addr) (oT : Obj), f0 = rawInt T ∧ s.heap.get? T = some oT := by
    rcases hf with rfl | ⟨T, rfl⟩
    · exact .inl (.inl rfl)
    · cases e : s.heap.get? T with
      | none => exact .inl (.inr ⟨T, rfl, e⟩)
      | some oT => exact .inr ⟨T, oT, rfl, e⟩
  rcases dead with hd | ⟨T, oT, rfl, hT⟩
  · exact zipG_next_end (zsep ha hb) D1 D2 hz hd hTI hTO ⟨c1, r1⟩ ⟨c2, r2⟩ (by omega) (by omega) (by omega) hE
  · exact zipH_next_end (zsep ha hb) D1 D2 hz hT hTI ⟨c1, r1⟩ ⟨c2, r2⟩ (by omega) (by omega) (by omega) hE
theorem ZTn.typ (hz : ZTn t1 t2 a b N n i s.heap) : s.TypeIs (.ref (N + 4)) "zip" := by
  obtain ⟨_, ⟨_, _, hz, _⟩, _⟩ := hz
  exact ⟨_, hz, rfl⟩
theorem ZTn.keep {h h' : Heap} (hz : ZTn t1 t2 a b N n i h) (k : ∀ c ∈ [N + 4, N + 2, N + 3, N, N + 1], ∀ o, h.get? c = some o → h'.get? c = some o) : ZTn t1 t2 a b N n i h' := by
  obtain ⟨hi, ⟨f0, f, hz, hf⟩, hTI, ⟨a1, a2, hTO⟩, c1, c2⟩ := hz
  exact ⟨hi, ⟨f0, f, k _ (by simp) _ hz, hf⟩, k _ (by simp) _ hTI, ⟨a1, a2, k _ (by simp) _ hTO⟩, c1.keep fun o e => k _ (by simp) o e, c2.keep fun o e => k _ (by simp) o e⟩
theorem ZTn.obj {h : Heap} (hz : ZTn t1 t2 a b N n i h) : ∀ c ∈ [N + 4, N + 2, N + 3, N, N + 1], ∃ o, h.get? c = some o ∧ ∀ v, o.data ≠ .cell v := fun c hc => by
  obtain ⟨_, ⟨_, _, hz, _⟩, hTI, ⟨x, y, hTO⟩, c1, c2⟩ := hz
  simp only [List.mem_cons, List.not_mem_nil, or_false] at hc
  rcases hc with q | q | q | q | q
  · rw [q]; exact ⟨_, hz, fun v q => nomatch q⟩
  · rw [q]; exact ⟨_, hTI, fun v q => nomatch q⟩
  · rw [q]; exact ⟨_, hTO, fun v q => nomatch q⟩
  · rw [q]; exact c1.obj
  · rw [q]; exact c2.obj
theorem ztn_pyNext {x y : Value} {Q : Option Value → Shared → Prop} (hA : A.handled = none) (ha : a < N) (hb : b < N) (hz : ZTn t1 t2 a b N n i s.heap) (r1 : SrcRaw s.heap t1 a l1) (r2 : SrcRaw s.heap t2 b l2)
    (e1 : l1[i]? = some x) (e2 : l2[i]? = some y) (hn : i < n)
    (hQ : ∀ h' tk, ZTn t1 t2 a b N n (i + 1) h' → IsTupOf2 h' s.heap.objs.size x y → h'.objs.size = s.heap.objs.size + 1 → (∀ c o, c ≠ N + 4 → c ≠ N + 3 → c ≠ N → c ≠ N + 1 → s.heap.get? c = some o → h'.get? c = some o) → Q (some (.ref s.heap.objs.size)) { s with heap := h', toks := tk }) :
    wpAny (model prog w) A (pyNext (.ref (N + 4))) Q E s := by
  have hTy := hz.typ
  have hA1 : A.in1.handled = none := hA
  unfold pyNext
  exact wpAny_bind (wpAny_attempt (wpAny_callSpecial?_slot (name := Str.ofString "__next__") hTy F.slot_zip_next
    (wpAny_call_entry F.slot_zip_next hTy F.entry_zip_next
      (ztn_item hA1 ha hb hz r1 r2 e1 e2 hn fun h' tk a1 a3 a4 a5 => wpAny_pure (hQ h' tk a1 a3 a4 a5)) (F.args_zip_next_1 _))))
theorem ztn_pyEnd {Q : Option Value → Shared → Prop} (hA : A.handled = none) (ha : a < N) (hb : b < N) (hz : ZTn t1 t2 a b N n i s.heap) (r1 : SrcRaw s.heap t1 a l1) (r2 : SrcRaw s.heap t2 b l2)
    (en : n = min l1.size l2.size) (hn : n ≤ i)
    (hQ : ∀ h' tk, (∀ c o, c ≠ N + 4 → c ≠ N + 3 → c ≠ N → c ≠ N + 1 → s.heap.get? c = some o → h'.get? c = some o) → Q none { s with heap := h', toks := tk }) :
    wpAny (model prog w) A (pyNext (.ref (N + 4))) Q E s := by
  have hTy := hz.typ
  have hA1 : A.in1.handled = none := hA
  unfold pyNext
  refine wpAny_bind (wpAny_attempt (wpAny_callSpecial?_slot (name := Str.ofString "__next__") hTy F.slot_zip_next
    (wpAny_call_entry F.slot_zip_next hTy F.entry_zip_next (ztn_end hA1 ha hb hz r1 r2 en hn fun h' tk e hk he => ?_) (F.args_zip_next_1 _))))
  obtain ⟨o, ho, hc⟩ := he
  refine wpAny_bind (wpAny_isInstance (T := "StopIteration") (b := true) ⟨o, ho, hc⟩ isSubtype_stop ?_)
  exact wpAny_pure (hQ h' tk hk)
theorem ztn_nextOf {x y : Value} {Q : Value → Shared → Prop} (hA : A.handled = none) (ha : a < N) (hb : b < N) (hz : ZTn t1 t2 a b N n i s.heap) (r1 : SrcRaw s.heap t1 a l1) (r2 : SrcRaw s.heap t2 b l2)
    (e1 : l1[i]? = some x) (e2 : l2[i]? = some y) (hn : i < n)
    (hQ : ∀ h' tk, ZTn t1 t2 a b N n (i + 1) h' → IsTupOf2 h' s.heap.objs.size x y → h'.objs.size = s.heap.objs.size + 1 → (∀ c o, c ≠ N + 4 → c ≠ N + 3 → c ≠ N → c ≠ N + 1 → s.heap.get? c = some o → h'.get? c = some o) → Q (.ref s.heap.objs.size) { s with heap := h', toks := tk }) :
    wpAny (model prog w) A (Builtin.SmallTypes.nextOf (.ref (N + 4))) Q E s := by
  have hTy := hz.typ
  have hA1 : A.in1.handled = none := hA
  unfold Builtin.SmallTypes.nextOf
  exact wpAny_bind (wpAny_callSpecial?_slot (name := Str.ofString "__next__") hTy F.slot_zip_next
    (wpAny_call_entry F.slot_zip_next hTy F.entry_zip_next
      (ztn_item hA1 ha hb hz r1 r2 e1 e2 hn fun h' tk a1 a3 a4 a5 => wpAny_pure (hQ h' tk a1 a3 a4 a5)) (F.args_zip_next_1 _)))
theorem ztn_nextEnd {Q : Value → Shared → Prop} (hA : A.handled = none) (ha : a < N) (hb : b < N) (hz : ZTn t1 t2 a b N n i s.heap) (r1 : SrcRaw s.heap t1 a l1) (r2 : SrcRaw s.heap t2 b l2)
    (en : n = min l1.size l2.size) (hn : n ≤ i)
    (hE : ∀ h' tk e, (∀ c o, c ≠ N + 4 → c ≠ N + 3 → c ≠ N → c ≠ N + 1 → s.heap.get? c = some o → h'.get? c = some o) → (∃ o, h'.get? e = some o ∧ o.cls = .type "StopIteration") → E (.ref e) { s with heap := h', toks := tk }) :
    wpAny (model prog w) A (Builtin.SmallTypes.nextOf (.ref (N + 4))) Q E s := by
  have hTy := hz.typ
  have hA1 : A.in1.handled = none := hA
  unfold Builtin.SmallTypes.nextOf
  exact wpAny_bind (wpAny_callSpecial?_slot (name := Str.ofString "__next__") hTy F.slot_zip_next
    (wpAny_call_entry F.slot_zip_next hTy F.entry_zip_next (ztn_end hA1 ha hb hz r1 r2 en hn hE) (F.args_zip_next_1 _)))
end
end Sm

set_option Elab.async false
set_option linter.all false
set_option maxRecDepth 100000
/-! S25: list of an iterator of tuples; enumerate(zip(..)). -/
namespace Sm
open PySem PySem.Spec PyProof.Rows L2 RZ
theorem zip_no_len : typeLookup (.type "zip") "__len__" = pure none := am_miss_of_fast (by decide +kernel)
theorem zip_no_hint : typeLookup (.type "zip") "__length_hint__" = pure none := am_miss_of_fast (by decide +kernel)
theorem enum_no_len : typeLookup (.type "enumerate") "__len__" = pure none := am_miss_of_fast (by decide +kernel)
theorem enum_no_hint : typeLookup (.type "enumerate") "__length_hint__" = pure none := am_miss_of_fast (by decide +kernel)
/-- an iterator that hands out new tuples that are kept, while the list at S grows -/
structure LTurn (P : Program) (w : World) (K : PySem.W.Frag) (S : Addr) (ss : Srcs) (n : Nat) (row : Nat → Option (List V)) (fp : List Addr) (it : Addr) (tn : Nat → Heap → Prop) : Prop where
  keep : ∀ i h h', tn i h → (∀ b o, b ≠ S → h.get? b = some o → h'.get? b = some o) → tn i h'
  le : ∀ i h, tn i h → i ≤ n
  self : ∀ (A : Around) (i : Nat) (s : Shared) (Q : Value → Shared → Prop) (E : Value → Shared → Prop), tn i s.heap → Q (.ref it) s → wpAny (model P w) A (pyIter (.ref it)) Q E s
  item : ∀ (A : Around), A.handled = none → ∀ ls, SrcV ss ls → ∀ (i : Nat) (s : Shared) (Q : Option Value → Shared → Prop) (E : Value → Shared → Prop), tn i s.heap → SrcR s.heap ss ls → i < n → S < s.heap.objs.size →
    (∀ us r h' tk, row i = some r → Vals r us → r.length ≤ sizeLine → h'.IsTuple s.heap.objs.size (List.toArray us) → tn (i + 1) h' → (∀ b o, b ∉ fp → s.heap.get? b = some o → h'.get? b = some o) → Q (some (.ref s.heap.objs.size)) { s with heap := h', toks := tk }) →
    wpAny (model P w) A (pyNext (.ref it)) Q E s
  done : ∀ (A : Around), A.handled = none → ∀ ls, SrcV ss ls → ∀ (s : Shared) (Q : Option Value → Shared → Prop) (E : Value → Shared → Prop), tn n s.heap → SrcR s.heap ss ls →
    (∀ h' tk, (∀ b o, b ∉ fp → s.heap.get? b = some o → h'.get? b = some o) → Q none { s with heap := h', toks := tk }) → wpAny (model P w) A (pyNext (.ref it)) Q E s
theorem lturn_zip {P : Program} {w : World} {K : PySem.W.Frag} {S : Addr} (t1 t2 : Bool) {a b N : Addr} {xs ys : List V} (ha : a < N) (hb : b < N) (hS : S ∉ [N + 4, N + 2, N + 3, N, N + 1]) :
    LTurn P w K S [(t1, a, xs), (t2, b, ys)] (min xs.length ys.length) (row2 xs ys) [N + 4, N + 2, N + 3, N, N + 1] (N + 4) (ZTn t1 t2 a b N (min xs.length ys.length)) where
  keep := fun i h h' st k => st.keep fun c hc o e => k c o (fun z => hS (z ▸ hc)) e
  le := fun i h st => st.1
  self := fun A i s Q E st q => by
    have hT := st.typ
    refine wpAny_pyIter_slot hT F.slot_zip_iter (wpAny_call_entry F.slot_zip_iter hT F.entry_zip_iter ?_ (F.args_zip_iter_1 _))
    show wpAny _ _ (ret (.ref (N + 4))) _ _ s
    exact wpAny_pure ⟨_, rfl, "zip", _, hT, F.slot_zip_next.lookup, q⟩
  item := fun A hA ls hv i s Q E st hr hi hS' hQ => by
    obtain _ | ⟨v1, hv⟩ := hv
    obtain _ | ⟨v2, hv⟩ := hv
    cases hv
    rename_i l1 l2
    obtain _ | ⟨r1, r⟩ := hr
    obtain _ | ⟨r2, r⟩ := r
    have hx : i < xs.length := Nat.lt_of_lt_of_le hi (Nat.min_le_left _ _)
    have hy : i < ys.length := Nat.lt_of_lt_of_le hi (Nat.min_le_right _ _)
    obtain ⟨u1, e1, g1⟩ := v1.get (List.getElem?_eq_getElem hx)
    obtain ⟨u2, e2, g2⟩ := v2.get (List.getElem?_eq_getElem hy)
    refine ztn_pyNext hA ha hb st r1 r2 (by simpa using e1) (by simpa using e2) hi fun h' tk st' hT hsz hk => ?_
    refine hQ [u1, u2] [xs[i], ys[i]] h' tk ?_ (.cons g1 (.cons g2 .nil)) (by show 2 ≤ sizeLine; decide) ⟨_, hT, rfl, _, rfl⟩ st' fun c o hc e => hk c o (fun q => hc (by simp [q])) (fun q => hc (by simp [q])) (fun q => hc (by simp [q])) (fun q => hc (by simp [q])) e
    show (match xs[i]?, ys[i]? with | some x, some y => some [x, y] | _, _ => none) = _
    rw [List.getElem?_eq_getElem hx, List.getElem?_eq_getElem hy]
  done := fun A hA ls hv s Q E st hr hQ => by
    obtain _ | ⟨v1, hv⟩ := hv
    obtain _ | ⟨v2, hv⟩ := hv
    cases hv
    rename_i l1 l2
    obtain _ | ⟨r1, r⟩ := hr
    obtain _ | ⟨r2, r⟩ := r
    have n1 : l1.toArray.size = xs.length := by simpa using v1.length.symm
    have n2 : l2.toArray.size = ys.length := by simpa using v2.length.symm
    exact ztn_pyEnd hA ha hb st r1 r2 (by rw [n1, n2]) (Nat.le_refl _) fun h' tk hk => hQ h' tk fun c o hc e => hk c o (fun q => hc (by simp [q])) (fun q => hc (by simp [q])) (fun q => hc (by simp [q])) (fun q => hc (by simp [q])) e
/-- the rows, in new tuples -/
inductive RowsAt (H : Hp) : List (List V) → List V → Prop where
  | nil : RowsAt H [] []
  | cons {r : List V} {rs : List (List V)} {T : Addr} {ws : List V} : H T = some (.tup r) → RowsAt H rs ws → RowsAt H (r :: rs) (.ref T :: ws)
theorem RowsAt.snoc {H : Hp} {rs : List (List V)} {ws : List V} {r : List V} {T : Addr} (h : RowsAt H rs ws) (e : H T = some (.tup r)) : RowsAt H (rs ++ [r]) (ws ++ [.ref T]) := by
  induction h with
  | nil => exact .cons e .nil
  | cons a _ ih => exact .cons a ih
theorem RowsAt.ext {H H' : Hp} {rs : List (List V)} {ws : List V} (h : RowsAt H rs ws) (k : ∀ T r, H T = some (.tup r) → H' T = some (.tup r)) : RowsAt H' rs ws := by
  induction h with
  | nil => exact .nil
  | cons a _ ih => exact .cons (k _ _ a) ih
theorem RowsAt.length {H : Hp} {rs : List (List V)} {ws : List V} (h : RowsAt H rs ws) : rs.length = ws.length := by
  induction h with
  | nil => rfl
  | cons _ _ ih => simp [ih]
theorem fpOk_re {X : Cx} {pins : List (Addr × Obj)} {H H' : Hp} {b : Addr} (f : FpOk X pins H b) (e : H' b = none) : FpOk X pins H' b := ⟨e, f.2⟩
theorem vals_snoc {ws : List V} {us : List Value} {x : V} {u : Value} (h : Vals ws us) (r : RelV x u) : Vals (ws ++ [x]) (us ++ [u]) := by
  induction h with
  | nil => exact .cons r .nil
  | cons a _ ih => exact .cons a ih
theorem srcsAt_upd {K : PySem.W.Frag} {ss : Srcs} {H : Hp} {T : Addr} {o : HO} (h : SrcsAt K ss H) (hT : H T = none) : SrcsAt K ss (upd H T o) := by
  intro s hs
  have := h s hs
  obtain ⟨t, a, vs⟩ := s
  have up : ∀ b u, H b = some u → upd H T o b = some u := fun b u e => by rw [upd_ne (fun z => by rw [z, hT] at e; cases e)]; exact e
  cases t with
  | true =>
    rcases this with (q | ⟨o', q⟩) | q
    · exact .inl (.inl (up _ _ q))
    · exact .inl (.inr ⟨o', up _ _ q⟩)
    · exact .inr q
  | false =>
    rcases this with (q | ⟨o', q⟩) | q
    · exact .inl (.inl (up _ _ q))
    · exact .inl (.inr ⟨o', up _ _ q⟩)
    · exact .inr q
theorem ext_loop {X : Cx} {S it : Addr} {fp : List Addr} {ss : Srcs} {n : Nat} {row : Nat → Option (List V)} {tn : Nat → Heap → Prop} {A : Around} (hA : A.in1.handled = none) (LT : LTurn X.prog X.w X.K S ss n row fp it tn) {pins : List (Addr × Obj)} {σ : L2.St} {H0 : Hp} {rs : List (List V)}
    (hrs : rs.length = n) (hrow : ∀ i r, rs[i]? = some r → row i = some r) (hn : n ≤ sizeLine) {res : Value} {R : Result → Shared → Prop} (hSf : S ∉ fp) (obj : ∀ i h, tn i h → ∀ b ∈ fp, ∃ o, h.get? b = some o) :
    ∀ (k i : Nat) (s : Shared) (H : Hp) (ws : List V) (us : List Value) (c : Nat), n - i = k → i ≤ n → Inv X pins σ H s → (∀ b ∈ S :: fp, FpOk X pins H b) → Same H0 H → SrcsAt X.K ss H → tn i s.heap →
    s.heap.get? S = some { cls := .type "list", dict := none, data := .seq (List.toArray us) c, slots := #[] } → Vals ws us → RowsAt H (rs.take i) ws →
    (∀ s' H' ws' us' c', Inv X pins σ H' s' → Same H0 H' → FpOk X pins H' S → s'.heap.get? S = some { cls := .type "list", dict := none, data := .seq (List.toArray us') c', slots := #[] } → Vals ws' us' → RowsAt H' rs ws' → R (.ok (.ret res)) s') →
    codeAny (model X.prog X.w) A (.builtin "list.extend.loop" ⟨[.ref S, .ref it, res], []⟩) R s := by
  intro k
  induction k with
  | zero =>
    intro i s H ws us c hk hi I hf sm hs st hS hv hr hR
    have hin : i = n := by omega
    subst hin
    obtain ⟨ls, pv, pr⟩ := srcs_raw I hs
    refine codeAny_builtin F.entry_extend_loop ?_
    rw [Around.under_plainId F.plain_extend_loop _]
    show wpAny _ A.in1 (pyNext (.ref it) >>= _) _ _ s
    refine wpAny_bind (LT.done A.in1 hA ls pv s _ _ st pr fun h' tk hk => wpAny_pure ?_)
    have e := List.take_of_length_le (l := rs) (i := i) (by omega)
    rw [e] at hr
    exact hR _ H ws us c (I.turnedL (t' := tk) (ch := fp) hk fun b hb => hf b (List.mem_cons_of_mem _ hb)) sm (hf S List.mem_cons_self) (hk _ _ hSf hS) hv hr
  | succ k ih =>
    intro i s H ws us c hk hi I hf sm hs st hS hv hr hR
    have hlt : i < n := by omega
    obtain ⟨ls, pv, pr⟩ := srcs_raw I hs
    refine codeAny_builtin F.entry_extend_loop ?_
    rw [Around.under_plainId F.plain_extend_loop _]
    show wpAny _ A.in1 (pyNext (.ref it) >>= _) _ _ s
    refine wpAny_bind (LT.item A.in1 hA ls pv i s _ _ st pr hlt (Heap.lt_size hS) fun vs r h' tk er rv hz hT st' hk' => ?_)
    have hS' : h'.get? S = some { cls := .type "list", dict := none, data := .seq (List.toArray us) c, slots := #[] } := hk' _ _ hSf hS
    have hir : i < rs.length := by omega
    have er' : rs[i]? = some r := by
      have e1 := hrow i rs[i] (List.getElem?_eq_getElem hir)
      rw [er] at e1
      rw [List.getElem?_eq_getElem hir, Option.some.inj e1]
    have hfree : H s.heap.objs.size = none := I.hok.fresh (Nat.le_refl _)
    have new : ObjOk X.prog X.w (upd H s.heap.objs.size (.tup r)) h' s.heap.objs.size (.tup r) := ⟨hz, vs, rv, hT⟩
    have I1 : Inv X pins σ (upd H s.heap.objs.size (.tup r)) { s with heap := h', toks := tk } := I.turnedNew (ch := fp) hk' (fun b hb => hf b (List.mem_cons_of_mem _ hb)) (Nat.le_refl _) new
    have hf1 : ∀ b ∈ S :: fp, FpOk X pins (upd H s.heap.objs.size (.tup r)) b := fun b hb => by
      refine fpOk_re (hf b hb) ?_
      have hlt : b < s.heap.objs.size := by
        rcases List.mem_cons.mp hb with rfl | hb
        · exact Heap.lt_size hS
        · obtain ⟨o, ho⟩ := obj i _ st b hb
          exact Heap.lt_size ho
      rw [upd_ne (Nat.ne_of_lt hlt)]
      exact (hf b hb).1
    show wpAny _ A.in1 (updateSeq S (·.push _) >>= _) _ _ _
    refine wpAny_bind ?_
    have hlen : us.length = i := by rw [← hv.length, ← hr.length, List.length_take]; omega
    refine wpAny_updateSeq hS' rfl (wpAny_pure ⟨plainId_quiet F.plain_extend_loop _, ih (i + 1) _ (upd H s.heap.objs.size (.tup r)) (ws ++ [.ref s.heap.objs.size]) (us ++ [.ref s.heap.objs.size]) _ (by omega) hlt ?_ hf1 (sm.trans (same_upd hfree)) (srcsAt_upd hs hfree) (LT.keep _ _ _ st' fun b o hb e => ?_) (by
      have q := Heap.get?_update_self (Obj.mapSeq (·.push (Value.ref s.heap.objs.size))) hS' rfl
      rw [q]; simp [Obj.mapSeq]; rfl) (vals_snoc hv (x := .ref s.heap.objs.size) (u := .ref s.heap.objs.size) (show RelV (.ref _) (.ref _) from rfl)) ?_ hR⟩)
      (by simp; omega) (by show (us.toArray.push _).size ≤ sizeLine + 1; rw [Array.size_push]; simp; omega)
    · exact I1.turnedL (t' := tk) (ch := [S]) (fun b o hb e => (Heap.get?_update_other _ _ (fun h : S = b => hb (by simp [h]))).trans e) fun b hb => by rw [List.mem_singleton.mp hb]; exact hf1 S List.mem_cons_self
    · exact (Heap.get?_update_other _ _ (Ne.symm hb)).trans e
    · rw [List.take_add_one, er']
      exact (hr.ext fun T r' e => by rw [upd_ne (fun z => by rw [z, hfree] at e; cases e)]; exact e).snoc upd_same
end Sm

set_option Elab.async false
set_option linter.all false
set_option maxRecDepth 100000
/-! S26: list(zip(..)); enumerate(zip(..)): the rules. -/
namespace Sm
open PySem PySem.Spec PyProof.Rows L2 RZ
section
variable {prog : Program} {w : World} {A : Around} {s : Shared} {R : Result → Shared → Prop} {it S : Addr} {T : String}
theorem extend_it (hTy : ∀ h, (∀ b o, b ≠ S → s.heap.get? b = some o → h.get? b = some o) → ({ s with heap := h } : Shared).TypeIs (.ref it) T) (h2 : (Value.type T == Value.type "list") = false) (h3 : (Value.type T == Value.type "tuple") = false) (hl : typeLookup (.type T) "__len__" = pure none) (hh : typeLookup (.type T) "__length_hint__" = pure none)
    (self : ∀ (A : Around) (Q : Value → Shared → Prop) (E : Value → Shared → Prop), Q (.ref it) s → wpAny (model prog w) A (pyIter (.ref it)) Q E s) (hSI : S ≠ it) (res : Value) (c₀ : Nat)
    (hS : s.heap.get? S = some { cls := .type "list", data := .seq #[] c₀ })
    (next : ∀ h2 c, (∀ b o, b ≠ S → s.heap.get? b = some o → h2.get? b = some o) → h2.get? S = some { cls := .type "list", dict := none, data := .seq #[] c, slots := #[] } → codeAny (model prog w) A (.builtin "list.extend.loop" ⟨[.ref S, .ref it, res], []⟩) R { s with heap := h2 }) :
    wpAny (model prog w) A.in1 (Builtin.List.listExtendWith (.ref S) (.ref it) res)
      (fun fin s' => match fin with | .done f => R (.ok f) s' | .again c' => c'.quiet = true ∧ codeAny (model prog w) A c' R s') (fun e s' => R (.error e) s') s := by
  have hT0 : s.TypeIs (.ref it) T := hTy s.heap fun _ _ _ e => e
  unfold Builtin.List.listExtendWith
  refine wpAny_bind (wpAny_typeOf hT0 ?_)
  have h1 : Builtin.List.listSameRef (.ref S) (.ref it) = false := by simp [Builtin.List.listSameRef, hSI]
  simp only [h1, h2, h3, Bool.or_false, Bool.false_eq_true, if_false]
  refine wpAny_bind (self _ _ _ ?_)
  refine wpAny_bind (wpAny_holding ?_)
  unfold Builtin.List.listLengthHint
  refine wpAny_bind (wpAny_specialOf hT0 hl ?_)
  show wpAny _ A.in1 (specialOf (Value.ref it) (Str.ofString "__length_hint__") >>= _) _ _ _
  refine wpAny_bind (wpAny_specialOf hT0 hh ?_)
  refine wpAny_pure ?_
  show wpAny _ A.in1 (rule "list.extend.makes-room" >>= fun _ => Builtin.List.listTouch (.ref S) >>= fun _ =>
    again (.builtin "list.extend.loop" ⟨[.ref S, .ref it, res], []⟩)) _ _ _
  refine wpAny_bind (wpAny_rule ?_)
  refine wpAny_bind ?_
  show wpAny _ A.in1 (updateSeq S (·.push .none) >>= fun _ => updateSeq S (·.pop)) _ _ _
  refine wpAny_bind (wpAny_updateSeq hS rfl ?_)
  have hS₂ := Heap.get?_update_self (Obj.mapSeq (·.push Value.none)) hS rfl
  refine wpAny_updateSeq (hz := by seq_fits) hS₂ rfl ?_
  have hS₃ := Heap.get?_update_self (Obj.mapSeq (·.pop)) hS₂ rfl
  have oth : ∀ b o, b ≠ S → s.heap.get? b = some o → ((s.heap.update S (Obj.mapSeq (·.push Value.none))).update S (Obj.mapSeq (·.pop))).get? b = some o :=
    fun b o hb e => (Heap.get?_update_other _ _ (Ne.symm hb)).trans ((Heap.get?_update_other _ _ (Ne.symm hb)).trans e)
  exact wpAny_pure ⟨plainId_quiet F.plain_extend_loop _, next _ _ oth hS₃⟩
theorem list_init_it (hTy : ∀ h, (∀ b o, b ≠ S → s.heap.get? b = some o → h.get? b = some o) → ({ s with heap := h } : Shared).TypeIs (.ref it) T) (h2 : (Value.type T == Value.type "list") = false) (h3 : (Value.type T == Value.type "tuple") = false) (hl : typeLookup (.type T) "__len__" = pure none) (hh : typeLookup (.type T) "__length_hint__" = pure none)
    (self : ∀ (A : Around) (h : Heap) (Q : Value → Shared → Prop) (E : Value → Shared → Prop), (∀ b o, b ≠ S → s.heap.get? b = some o → h.get? b = some o) → Q (.ref it) { s with heap := h } → wpAny (model prog w) A (pyIter (.ref it)) Q E { s with heap := h }) (hSI : S ≠ it)
    (hS : s.heap.get? S = some { cls := .type "list", data := .seq #[] })
    (next : ∀ h2 c, (∀ b o, b ≠ S → s.heap.get? b = some o → h2.get? b = some o) → h2.get? S = some { cls := .type "list", dict := none, data := .seq #[] c, slots := #[] } → codeAny (model prog w) A (.builtin "list.extend.loop" ⟨[.ref S, .ref it, .none], []⟩) R { s with heap := h2 }) :
    wpAny (model prog w) A.in1 (Builtin.«list.__init__» ⟨[.ref S, .ref it], []⟩)
      (fun fin s' => match fin with | .done f => R (.ok f) s' | .again c' => c'.quiet = true ∧ codeAny (model prog w) A c' R s') (fun e s' => R (.error e) s') s := by
  show wpAny _ A.in1 (do let old ← Builtin.List.listItems (.ref S); Builtin.List.listUpdate (.ref S) (fun _ => #[]); letGo old.toList.reverse; Builtin.List.listExtendWith (.ref S) (.ref it) .none) _ _ s
  refine wpAny_bind ?_
  unfold Builtin.List.listItems
  refine wpAny_bind (wpAny_seqItems hS rfl (wpAny_pure ?_))
  show wpAny _ A.in1 (updateSeq S (fun _ => #[]) >>= fun _ => letGo (#[] : Array Value).toList.reverse >>= fun _ => Builtin.List.listExtendWith (.ref S) (.ref it) .none) _ _ s
  refine wpAny_bind (wpAny_updateSeq hS rfl ?_)
  have hS₂ := Heap.get?_update_self (Obj.mapSeq (fun _ => (#[] : Array Value))) hS rfl
  have oth : ∀ b o, b ≠ S → s.heap.get? b = some o → (s.heap.update S (Obj.mapSeq (fun _ => (#[] : Array Value)))).get? b = some o :=
    fun b o hb e => (Heap.get?_update_other _ _ (Ne.symm hb)).trans e
  refine wpAny_bind (wpAny_letGo ?_)
  exact extend_it (s := { s with heap := s.heap.update S (Obj.mapSeq (fun _ => (#[] : Array Value))) }) (fun h k => hTy h fun b o hb e => k b o hb (oth b o hb e)) h2 h3 hl hh (fun A Q E q => self A _ Q E oth q) hSI .none _ hS₂ fun h2' c k hS' => next h2' c (fun b o hb e => k b o hb (oth b o hb e)) hS'
end
theorem call_list_it {prog : Program} {w : World} {A : Around} {E : Value → Shared → Prop} {s : Shared} {it : Addr} {T : String} {Q : Value → Shared → Prop} (hlt : it < s.heap.objs.size)
    (hTy : ∀ h, (∀ b o, s.heap.get? b = some o → h.get? b = some o) → ({ s with heap := h } : Shared).TypeIs (.ref it) T) (h2 : (Value.type T == Value.type "list") = false) (h3 : (Value.type T == Value.type "tuple") = false) (hl : typeLookup (.type T) "__len__" = pure none) (hh : typeLookup (.type T) "__length_hint__" = pure none)
    (self : ∀ (A : Around) (h : Heap) (Q : Value → Shared → Prop) (E : Value → Shared → Prop), (∀ b o, s.heap.get? b = some o → h.get? b = some o) → Q (.ref it) { s with heap := h } → wpAny (model prog w) A (pyIter (.ref it)) Q E { s with heap := h })
    (next : ∀ (R : Result → Shared → Prop) h2 c, (∀ b o, s.heap.get? b = some o → h2.get? b = some o) → h2.get? s.heap.objs.size = some { cls := .type "list", dict := none, data := .seq #[] c, slots := #[] } → (∀ s', Q (.ref s.heap.objs.size) s' → R (.ok (.ret .none)) s') → codeAny (model prog w) A.in1 (.builtin "list.extend.loop" ⟨[.ref s.heap.objs.size, .ref it, .none], []⟩) R { s with heap := h2 }) :
    wpAny (model prog w) A (call (.type "list") [.ref it]) Q E s := by
  refine callType_codes (Q₁ := fun obj s₁ => obj = .ref s.heap.objs.size ∧ s₁ = { s with heap := s.heap.push { cls := .type "list", data := .seq #[] } }) F.called_list (F.typeCall_list_1 _) F.entry_list_init
    (code_list_new _ ⟨rfl, rfl⟩) fun obj s₁ h₁ => ?_
  obtain ⟨rfl, rfl⟩ := h₁
  have hS : (s.heap.push { cls := .type "list", data := .seq #[] }).get? s.heap.objs.size = some { cls := .type "list", data := .seq #[] } := Heap.get?_push_size _ rfl
  have up : ∀ {h : Heap}, (∀ b o, b ≠ s.heap.objs.size → (s.heap.push { cls := .type "list", data := .seq #[] }).get? b = some o → h.get? b = some o) → ∀ b o, s.heap.get? b = some o → h.get? b = some o := fun k b o e => k b o (Nat.ne_of_lt (Heap.lt_size e)) (Heap.get?_push_of_some _ e)
  refine ⟨⟨_, hS, rfl⟩, F.args_list_init_2 _ _, list_init_it (T := T) (fun h k => hTy h (up k)) h2 h3 hl hh (fun A h Q E k q => self A h Q E (up k) q) (Nat.ne_of_gt hlt) hS fun h2' c k hS' => ?_⟩
  exact next _ h2' c (up k) hS' fun s' q => ⟨rfl, q⟩
def zipRows : List V → List V → List (List V)
  | x :: xs, y :: ys => [x, y] :: zipRows xs ys
  | _, _ => []
theorem zipRows_length : ∀ {xs ys : List V}, (zipRows xs ys).length = min xs.length ys.length
  | x :: xs, y :: ys => by simp [zipRows, zipRows_length (xs := xs) (ys := ys)]
  | [], _ => by simp [zipRows]
  | _ :: _, [] => by simp [zipRows]
theorem zipRows_row : ∀ {xs ys : List V} {i : Nat} {r : List V}, (zipRows xs ys)[i]? = some r → row2 xs ys i = some r
  | x :: xs, y :: ys, 0, r, h => by simpa [zipRows, row2] using h
  | x :: xs, y :: ys, i + 1, r, h => by
    have := zipRows_row (xs := xs) (ys := ys) (i := i) (r := r) (by simpa [zipRows] using h)
    simpa [row2] using this
  | [], _, _, _, h => by simp [zipRows] at h
  | _ :: _, [], _, _, h => by simp [zipRows] at h
theorem src_len {X : Cx} {pins : List (Addr × Obj)} {σ : L2.St} {H : Hp} {s : Shared} {t : Bool} {a : Addr} {vs : List V} (I : Inv X pins σ H s) (h : SrcAt X.K t a vs H) : vs.length ≤ sizeLine := by
  cases t with
  | true => obtain ⟨_, _, _, z⟩ := I.tuple h; exact z
  | false => obtain ⟨_, _, _, z⟩ := I.list h; exact z
def tLZ2 (K : PySem.W.Frag) (ta : TA) : TE := fun σ H Q => ta σ H fun vs H1 => ∃ t1 a xs t2 b ys, vs = [.ref a, .ref b] ∧ SrcAt K t1 a xs H1 ∧ SrcAt K t2 b ys H1 ∧ ∀ H' ws p, Same H1 H' → RowsAt H' (zipRows xs ys) ws → H' p = none → Q (.ref p) (upd H' p (.lst ws))
theorem pe_listZ2 {X : Cx} {e e2 : Expr} {ta : TA} {p p2 pos pos2 : Pos} (hc : X.calm = true) (hg : Gl X "list") (hm : X.mg "list" = none) (hg2 : Gl X "zip") (hm2 : X.mg "zip" = none) (ha : PA X [e, e2] ta)
    (na : starEach [.Call (.Name "zip" p2) [e, e2] [] pos2] X.env = (false, eval (.Call (.Name "zip" p2) [e, e2] [] pos2) X.env) :: starEach [] X.env := by rfl)
    (hs : starEach [e, e2] X.env = (false, eval e X.env) :: starEach [e2] X.env := by rfl) (hpl : (backTo pos2 (starEach [e2] X.env)).any (·.1) = false := by rfl) :
    PE X (.Call (.Name "list" p) [.Call (.Name "zip" p2) [e, e2] [] pos2] [] pos) (tLZ2 X.K ta) := by
  refine ⟨fun pins s σ H Q I h => ?_⟩
  refine Call_ (ld_blt I hg hm boot_list (PyProof.Rows.callWith_type1 (args_cons (Call_ (ld_blt I hg2 hm2 PyProof.Rows.boot_zip (PyProof.Rows.callWith_type1 (thn (ha.run pos2 pins s σ H _ I h) fun us s1 ⟨vs, H1, I1, r1, q1⟩ => ?_) hs hpl))) na) na))
  obtain ⟨t1, a, xs, t2, b, ys, ex, hx, hy, q⟩ := q1
  subst ex
  obtain _ | ⟨r, rr⟩ := r1
  obtain _ | ⟨r', rr⟩ := rr
  cases rr
  cases r
  cases r'
  obtain ⟨l1, v1, w1⟩ := inv_src I1 hx
  obtain ⟨l2, v2, w2⟩ := inv_src I1 hy
  refine zip_begins2 (begins_src t1 a l1.toArray) (begins_src t2 b l2.toArray) w1 w2 fun h' hz hTI hTO g1 g2 hsz hk => args_nil ?_
  have I2 : Inv X pins σ H1 { s1 with heap := h' } := I1.kept (t' := s1.toks) hk
  refine call_list_it (T := "zip") (Heap.lt_size hz) (fun h k => ⟨_, k _ _ hz, rfl⟩) (by decide) (by decide) zip_no_len zip_no_hint (fun A h Q E k q => wpAny_pyIter_zip (k _ _ hz) q) fun R h2 c k hS hR => ?_
  have I3 : Inv X pins σ H1 { s1 with heap := h2 } := I2.kept (t' := s1.toks) k
  have fresh : ∀ c, s1.heap.objs.size ≤ c → FpOk X pins H1 c := fun c hle => I1.fpOk hle (I1.hok.fresh hle)
  have hn5 : (h'.objs.size : Nat) ∉ [s1.heap.objs.size + 4, s1.heap.objs.size + 2, s1.heap.objs.size + 3, s1.heap.objs.size, s1.heap.objs.size + 1] := by
    rw [hsz]; simp
  have LT := lturn_zip (P := X.prog) (w := X.w) (K := X.K) (S := h'.objs.size) t1 t2 (xs := xs) (ys := ys) w1.lt w2.lt hn5
  refine ext_loop (A := X.A.in1) (I.ok.hd hc) LT (rs := zipRows xs ys) zipRows_length (fun i r e => zipRows_row e) (Nat.le_trans (Nat.min_le_left _ _) (src_len I1 hx)) hn5 (fun i h st b hb => ?_) _ 0 { s1 with heap := h2 } H1 [] [] c rfl (Nat.zero_le _) I3 (fun b hb => ?_) (Same.refl H1) (fun s hs => ?_)
    ⟨Nat.zero_le _, ⟨.none, false, k _ _ hz, .inl rfl⟩, k _ _ hTI, ⟨_, _, k _ _ hTO⟩, .new (k _ _ g1), .new (k _ _ g2)⟩ hS .nil .nil fun s' H' ws' us' c' I' sm' f' hS' hv' hr' => hR s' ?_
  · obtain ⟨o, ho, _⟩ := st.obj b hb
    exact ⟨o, ho⟩
  · refine fresh b ?_
    rcases List.mem_cons.mp hb with rfl | hb
    · rw [hsz]; exact Nat.le_add_right _ _
    · exact le_fp (l := [4, 2, 3, 0, 1]) (by simpa using hb)
  · simp only [List.mem_cons, List.not_mem_nil, or_false] at hs
    rcases hs with rfl | rfl
    · exact hx
    · exact hy
  · have hlen : ws'.length ≤ sizeLine := by rw [← hr'.length, zipRows_length]; exact Nat.le_trans (Nat.min_le_left _ _) (src_len I1 hx)
    exact ⟨.ref h'.objs.size, _, I'.take (t' := s'.toks) (h' := s'.heap) (o := .lst ws') (fun b ob _ e => e) f' ⟨hlen, us', c', hv', hS'⟩, rfl, q H' ws' _ sm' hr' f'.1⟩
end Sm

set_option Elab.async false
set_option linter.all false
set_option maxRecDepth 100000
/-! S27: enumerate(zip(..)), list(zip(..)) by values. -/
namespace Sm
open PySem PySem.Spec PyProof.Rows L2 RZ
section
variable {prog : Program} {w : World} {A : Around} {E : Value → Shared → Prop} {s : Shared} {e it : Addr} {c : Int} {old x : Value}
theorem enumG_next {Inn : Heap → Prop} {Q : Value → Shared → Prop} (he : IsEnum s.heap e it c old)
    (hn : ∀ (Q1 : Value → Shared → Prop), (∀ h₁ tk, IsEnum h₁ e it c old → Inn h₁ → Q1 x { s with heap := h₁, toks := tk }) → wpAny (model prog w) A (Builtin.SmallTypes.nextOf (.ref it)) Q1 E s)
    (hQ : ∀ h₁ h' tk, Inn h₁ → IsEnumOut h' e it (c + 1) x h₁.objs.size → h'.get? h₁.objs.size = some { cls := .type "tuple", data := .seq #[.int c tk, x] } →
      (∀ b o, b ≠ e → h₁.get? b = some o → h'.get? b = some o) → Q (.ref h₁.objs.size) { s with heap := h', toks := tk + 1 }) :
    wpAny (model prog w) A (Builtin.«enumerate.__next__» ⟨[.ref e], []⟩) (fun fin s' => ∃ v, fin = .done (.ret v) ∧ Q v s') E s := by
  obtain ⟨hp, g, d, tk₀, os⟩ := s
  show wpAny _ _ (field (.ref e) 2 >>= _) _ _ _
  refine wpAny_bind (wpAny_field he rfl (x := .ref it) rfl ?_)
  refine wpAny_bind (hn _ fun h₁ tk he₁ hin => ?_)
  replace he₁ : IsEnum h₁ e it c old := he₁
  show wpAny _ _ (field (.ref e) 3 >>= _) _ _ ⟨h₁, g, d, tk, os⟩
  refine wpAny_bind (wpAny_field he₁ rfl (x := rawInt c) rfl ?_)
  show wpAny _ _ (field (.ref e) 4 >>= _) _ _ ⟨h₁, g, d, tk, os⟩
  refine wpAny_bind (wpAny_field he₁ rfl (x := .none) rfl ?_)
  show wpAny _ _ (mkInt c >>= _) _ _ ⟨h₁, g, d, tk, os⟩
  refine wpAny_bind (wpAny_mkInt ?_)
  show wpAny _ _ (setField (.ref e) 3 (rawInt (c + 1)) >>= _) _ _ ⟨h₁, g, d, tk + 1, os⟩
  refine wpAny_bind (wpAny_setField_rec he₁ (by simp) fun h₂ he₂ hs₂ => ?_)
  replace hs₂ : Heap.SameBut e h₁ h₂ := hs₂
  replace he₂ : IsEnum h₂ e it (c + 1) old := he₂
  show wpAny _ _ (setField (.ref e) 4 .none >>= _) _ _ ⟨h₂, g, d, tk + 1, os⟩
  refine wpAny_bind (wpAny_setField_rec he₂ (by simp) fun h₃ he₃ hs₃ => ?_)
  replace hs₃ : Heap.SameBut e h₂ h₃ := hs₃
  replace he₃ : IsEnum h₃ e it (c + 1) old := he₃
  show wpAny _ _ (newTuple [.int c tk, x] >>= _) _ _ ⟨h₃, g, d, tk + 1, os⟩
  refine wpAny_bind (wpAny_newTuple ?_)
  have hsz : h₃.objs.size = h₁.objs.size := by rw [hs₃.1, hs₂.1]
  have hel : e < h₁.objs.size := Heap.lt_size he₁
  have he₄ : IsEnum (h₃.push { cls := .type "tuple", data := .seq #[.int c tk, x] }) e it (c + 1) old := Heap.get?_push_of_some _ he₃
  have ht₄ : (h₃.push { cls := .type "tuple", data := .seq #[.int c tk, x] }).get? h₁.objs.size = some { cls := .type "tuple", data := .seq #[.int c tk, x] } := by rw [← hsz]; exact Heap.get?_push_size _ rfl
  have hk₄ : ∀ b o, b ≠ e → h₁.get? b = some o → (h₃.push { cls := .type "tuple", data := .seq #[.int c tk, x] }).get? b = some o := fun b o hbe hb => Heap.get?_push_of_some _ (hs₃.extBut b o hbe (hs₂.extBut b o hbe hb))
  rw [hsz]
  generalize h₃.push { cls := .type "tuple", data := .seq #[.int c tk, x] } = h₄ at he₄ ht₄ hk₄ ⊢
  show wpAny _ _ (Builtin.SmallTypes.ownedTupleIsFree (.ref e) >>= _) _ _ ⟨h₄, g, d, tk + 1, os⟩
  refine wpAny_bind ?_
  · unfold Builtin.SmallTypes.ownedTupleIsFree
    refine wpAny_bind (wpAny_field he₄ rfl (x := .none) rfl (wpAny_pure ?_))
    simp only [if_true]
    refine wpAny_bind (wpAny_rule ?_)
    refine wpAny_bind (wpAny_field he₄ rfl (x := old) rfl ?_)
    refine wpAny_bind (wpAny_setField_rec he₄ (by simp) fun h₅ he₅ hs₅ => ?_)
    replace hs₅ : Heap.SameBut e h₄ h₅ := hs₅
    replace he₅ : IsEnum h₅ e it (c + 1) x := he₅
    show wpAny _ _ (Builtin.SmallTypes.ownedTupleHandOut (.ref e) (.ref h₁.objs.size) >>= _) _ _ ⟨h₅, g, d, tk + 1, os⟩
    refine wpAny_bind ?_
    · unfold Builtin.SmallTypes.ownedTupleHandOut
      refine wpAny_bind (wpAny_setField_rec he₅ (by simp) fun h₆ he₆ hs₆ => ?_)
      replace hs₆ : Heap.SameBut e h₅ h₆ := hs₆
      replace he₆ : IsEnumOut h₆ e it (c + 1) x h₁.objs.size := he₆
      refine wpAny_setField_rec he₆ (by simp) fun h₇ he₇ hs₇ => ?_
      replace hs₇ : Heap.SameBut e h₆ h₇ := hs₇
      replace he₇ : IsEnumOut h₇ e it (c + 1) x h₁.objs.size := he₇
      refine wpAny_bind (wpAny_letGo (wpAny_pure ⟨_, rfl, hQ h₁ h₇ tk hin he₇ ?_ ?_⟩))
      · exact hs₇.extBut _ _ (Nat.ne_of_gt hel) (hs₆.extBut _ _ (Nat.ne_of_gt hel) (hs₅.extBut _ _ (Nat.ne_of_gt hel) ht₄))
      · exact fun b o hbe hb => hs₇.extBut b o hbe (hs₆.extBut b o hbe (hs₅.extBut b o hbe (hk₄ b o hbe hb)))
theorem call_enumZ {z TI TO : Addr} {Q : Value → Shared → Prop} (hz : IsZip s.heap z TI TO .none)
    (h : ∀ h', IsEnum h' s.heap.objs.size z 0 .none → (∀ b o, s.heap.get? b = some o → h'.get? b = some o) → Q (.ref s.heap.objs.size) { s with heap := h' }) :
    wpAny (model prog w) A (call (.type "enumerate") [.ref z]) Q E s := by
  refine callType_new F.called_enumerate (by decide) (F.typeCall_enumerate_1 _) (F.newCall_enumerate_1 _) (fun obj => F.args_object_init_2 obj _) F.entry_enumerate_new
    (meets_enum1 (itv := .ref z) (f := fun h => h) (H := fun h => IsZip h z TI TO .none) fun prog w A E s' Q hs q => wpAny_pyIter_zip hs q) ⟨hz, ?_⟩
  have he : IsEnum (s.heap.push { cls := .type "enumerate", data := .fields #[.none, .bool false, .ref z, rawInt 0, .none, .none] }) s.heap.objs.size z 0 .none := Heap.get?_push_size _ rfl
  exact ⟨⟨_, he, rfl⟩, h _ he fun b o x => Heap.get?_push_of_some _ x⟩
end
def ItEZ (K : PySem.W.Frag) (ss : Srcs) (n : Nat) (xs ys : List V) : It :=
  ⟨fun i H => SrcsAt K ss H ∧ i < n,
    fun i H v H' => ∃ T1 T2 x y, v = .ref T2 ∧ H T1 = none ∧ H T2 = none ∧ T1 ≠ T2 ∧ xs[i]? = some x ∧ ys[i]? = some y ∧ H' = upd (upd H T1 (.tup [x, y])) T2 (.tup [.int (i : Nat), .ref T1]),
    fun i H => SrcsAt K ss H ∧ n ≤ i⟩
theorem ne_off {N k : Nat} (hk : 0 < k) : N + k ≠ N := by omega
theorem turn_enumZ {P : Program} {w : World} {K : PySem.W.Frag} {elts : List Expr} {kk : Nat} {tpos : Pos} (t1 t2 : Bool) {a b N : Addr} {xs ys : List V} (ha : a < N) (hb : b < N) :
    Turn P w K (.Tuple elts kk tpos) (ItEZ K [(t1, a, xs), (t2, b, ys)] (min xs.length ys.length) xs ys) [N + 5, N + 4, N + 2, N + 3, N, N + 1] (N + 5)
      (fun i h => (∃ old, IsEnum h (N + 5) (N + 4) (i : Int) old) ∧ ZTn t1 t2 a b N (min xs.length ys.length) i h) where
  mem := by simp
  obj := fun i h st c hc => by
    rcases List.mem_cons.mp hc with rfl | hc
    · obtain ⟨⟨old, he⟩, _⟩ := st
      exact ⟨_, he, fun v q => nomatch q⟩
    · exact st.2.obj c hc
  keep := fun i h h' st k => by
    obtain ⟨⟨old, he⟩, hz⟩ := st
    exact ⟨⟨old, k _ List.mem_cons_self _ he⟩, hz.keep fun c hc o e => k c (List.mem_cons_of_mem _ hc) o e⟩
  self := fun A i s Q E st q => let ⟨⟨_, he⟩, _⟩ := st; wpAny_pyIter_enum he q
  item := by
    intro X hP hw hK hc i pins s σ H E I hf st hg
    subst hP hw hK
    obtain ⟨⟨old, he⟩, hz⟩ := st
    obtain ⟨hs, hi⟩ := hg
    obtain ⟨ls, hv, hr⟩ := srcs_raw I hs
    obtain _ | ⟨v1, hv⟩ := hv
    obtain _ | ⟨v2, hv⟩ := hv
    cases hv
    rename_i l1 l2
    obtain _ | ⟨r1, r⟩ := hr
    obtain _ | ⟨r2, r⟩ := r
    have hx : i < xs.length := Nat.lt_of_lt_of_le hi (Nat.min_le_left _ _)
    have hy : i < ys.length := Nat.lt_of_lt_of_le hi (Nat.min_le_right _ _)
    obtain ⟨u1, e1, g1⟩ := v1.get (List.getElem?_eq_getElem hx)
    obtain ⟨u2, e2, g2⟩ := v2.get (List.getElem?_eq_getElem hy)
    have hT : s.TypeIs (.ref (N + 5)) "enumerate" := ⟨_, he, rfl⟩
    have hA : X.A.in1.handled = none := I.ok.hd hc
    unfold pyNext
    refine wpAny_bind (wpAny_attempt (wpAny_callSpecial?_slot (name := Str.ofString "__next__") hT F.slot_enumerate_next
      (wpAny_call_entry F.slot_enumerate_next hT F.entry_enumerate_next
        (enumG_next (x := .ref s.heap.objs.size) (Inn := fun h₁ => ZTn t1 t2 a b N (min xs.length ys.length) (i + 1) h₁ ∧ IsTupOf2 h₁ s.heap.objs.size u1 u2 ∧ h₁.objs.size = s.heap.objs.size + 1 ∧ ∀ c o, c ≠ N + 4 → c ≠ N + 3 → c ≠ N → c ≠ N + 1 → s.heap.get? c = some o → h₁.get? c = some o) he
          (fun Q1 hQ1 => ztn_nextOf (A := X.A.in1) hA ha hb hz r1 r2 (by simpa using e1) (by simpa using e2) hi fun h₁ tk a1 a2 a3 a4 => hQ1 h₁ tk (a4 _ _ ?_ ?_ ?_ ?_ he) ⟨a1, a2, a3, a4⟩)
          fun h₁ h' tk hin ho hT' hk => wpAny_pure ?_) (F.args_enumerate_next_1 _))))
    · exact Nat.succ_ne_self (N + 4)
    · intro z; have z' : (N + 5 : Nat) = N + 3 := z; exact absurd (Nat.add_left_cancel z') (by decide)
    · exact ne_off (by decide)
    · intro z; have z' : (N + 5 : Nat) = N + 1 := z; exact absurd (Nat.add_left_cancel z') (by decide)
    · obtain ⟨hz', hT1, hsz, hk1⟩ := hin
      refine ⟨_, rfl, wpAny_letOwnedTupleGo_enum (s := { s with heap := h', toks := tk + 1 }) ho fun h'' he'' sb => ?_⟩
      replace sb : Heap.SameBut (N + 5) h' h'' := sb
      have hel : (N + 5 : Nat) < s.heap.objs.size := Heap.lt_size he
      have hne1 : (s.heap.objs.size : Nat) ≠ N + 5 := Nat.ne_of_gt hel
      have hne2 : (h₁.objs.size : Nat) ≠ N + 5 := by rw [hsz]; exact Nat.ne_of_gt (Nat.lt_succ_of_lt hel)
      have up : ∀ c o, c ≠ N + 5 → h₁.get? c = some o → h''.get? c = some o := fun c o hc e => sb.extBut _ _ hc (hk c o hc e)
      have hT1'' : IsTupOf2 h'' s.heap.objs.size u1 u2 := up _ _ hne1 hT1
      have hT2'' : h''.get? h₁.objs.size = some { cls := .type "tuple", data := .seq #[.int i tk, .ref s.heap.objs.size] } := sb.extBut _ _ hne2 hT'
      have new1 : ObjOk X.prog X.w (upd H s.heap.objs.size (.tup [xs[i], ys[i]])) h'' s.heap.objs.size (.tup [xs[i], ys[i]]) :=
        ⟨by show 2 ≤ sizeLine; decide, [u1, u2], .cons g1 (.cons g2 .nil), ⟨_, hT1'', rfl, _, rfl⟩⟩
      have I1 : Inv X pins σ (upd H s.heap.objs.size (.tup [xs[i], ys[i]])) { s with heap := h'', toks := tk + 1 } :=
        I.turnedNew (t' := tk + 1) (ch := [N + 5, N + 4, N + 2, N + 3, N, N + 1]) (fun c o hc e => up c o (fun q => hc (by simp [q])) (hk1 c o (fun q => hc (by simp [q])) (fun q => hc (by simp [q])) (fun q => hc (by simp [q])) (fun q => hc (by simp [q])) e)) hf (Nat.le_refl _) new1
      have hle2 : s.heap.objs.size ≤ h₁.objs.size := by rw [hsz]; exact Nat.le_succ _
      have h12 : s.heap.objs.size ≠ h₁.objs.size := by rw [hsz]; exact (Nat.succ_ne_self _).symm
      have n1 : H s.heap.objs.size = none := I.hok.fresh (Nat.le_refl _)
      have n2 : H h₁.objs.size = none := I.hok.fresh hle2
      have n2' : (upd H s.heap.objs.size (.tup [xs[i], ys[i]])) h₁.objs.size = none := by rw [upd_ne (Ne.symm h12)]; exact n2
      have new2 : ObjOk X.prog X.w (upd (upd H s.heap.objs.size (.tup [xs[i], ys[i]])) h₁.objs.size (.tup [.int (i : Nat), .ref s.heap.objs.size])) h'' h₁.objs.size (.tup [.int (i : Nat), .ref s.heap.objs.size]) :=
        ⟨by show 2 ≤ sizeLine; decide, [.int i tk, .ref s.heap.objs.size], .cons ⟨_, rfl⟩ (.cons (show RelV (.ref _) (.ref _) from rfl) .nil), ⟨_, hT2'', rfl, _, rfl⟩⟩
      have I2 := I1.take (t' := tk + 1) (h' := h'') (it := h₁.objs.size) (o := .tup [.int (i : Nat), .ref s.heap.objs.size]) (fun c o _ e => e) (I.fpOk hle2 n2') new2
      have lt : ∀ c ∈ [N + 5, N + 4, N + 2, N + 3, N, N + 1], c < s.heap.objs.size := fun c hc => by
        rcases List.mem_cons.mp hc with rfl | hc
        · exact hel
        · obtain ⟨o, ho, _⟩ := hz.obj c hc
          exact Heap.lt_size ho
      refine ⟨.ref h₁.objs.size, _, I2, rfl, ⟨s.heap.objs.size, h₁.objs.size, xs[i], ys[i], rfl, n1, n2, h12, List.getElem?_eq_getElem hx, List.getElem?_eq_getElem hy, rfl⟩, ⟨⟨.ref s.heap.objs.size, ?_⟩, hz'.keep fun c hc o e => up c o (fun q => ?_) e⟩, fun c hc => ?_⟩
      · have e1 : ((i + 1 : Nat) : Int) = (i : Int) + 1 := by omega
        rw [e1]; exact he''
      · subst q
        simp only [List.mem_cons, List.not_mem_nil, or_false] at hc
        rcases hc with z | z | z | z | z
        all_goals first | exact absurd (Nat.add_left_cancel (show (N + 5 : Nat) = N + _ from z)) (by decide) | exact absurd z (ne_off (by decide))
      · have := lt c hc
        rw [upd_ne (Nat.ne_of_lt (Nat.lt_of_lt_of_le this hle2)), upd_ne (Nat.ne_of_lt this)]
        exact (hf c hc).1
  done := by
    intro X hP hw hK hc i pins s σ H E I hf st hg
    subst hP hw hK
    obtain ⟨⟨old, he⟩, hz⟩ := st
    obtain ⟨hs, hi⟩ := hg
    obtain ⟨ls, hv, hr⟩ := srcs_raw I hs
    obtain _ | ⟨v1, hv⟩ := hv
    obtain _ | ⟨v2, hv⟩ := hv
    cases hv
    rename_i l1 l2
    obtain _ | ⟨r1, r⟩ := hr
    obtain _ | ⟨r2, r⟩ := r
    have n1 : l1.toArray.size = xs.length := by simpa using v1.length.symm
    have n2 : l2.toArray.size = ys.length := by simpa using v2.length.symm
    have hT : s.TypeIs (.ref (N + 5)) "enumerate" := ⟨_, he, rfl⟩
    have hA : X.A.in1.handled = none := I.ok.hd hc
    unfold pyNext
    refine wpAny_bind (wpAny_attempt (wpAny_callSpecial?_slot (name := Str.ofString "__next__") hT F.slot_enumerate_next
      (wpAny_call_entry F.slot_enumerate_next hT F.entry_enumerate_next ?_ (F.args_enumerate_next_1 _))))
    show wpAny _ _ (field (.ref (N + 5)) 2 >>= _) _ _ _
    refine wpAny_bind (wpAny_field he rfl (x := .ref (N + 4)) rfl ?_)
    refine wpAny_bind (ztn_nextEnd (A := X.A.in1) hA ha hb hz r1 r2 (by rw [n1, n2]) hi fun h' tk x hk hx' => ?_)
    obtain ⟨o, ho, hc⟩ := hx'
    refine wpAny_bind (wpAny_isInstance (T := "StopIteration") (b := true) ⟨o, ho, hc⟩ isSubtype_stop ?_)
    exact wpAny_pure ⟨rfl, I.turnedL (t' := tk) (ch := [N + 5, N + 4, N + 2, N + 3, N, N + 1]) (fun c o hc e => hk c o (fun q => hc (by simp [q])) (fun q => hc (by simp [q])) (fun q => hc (by simp [q])) (fun q => hc (by simp [q])) e) hf⟩
end Sm

set_option Elab.async false
set_option linter.all false
set_option maxRecDepth 100000
/-! S28: enumerate(zip(..)) and list(zip(..)) by values. -/
namespace Sm
open PySem PySem.Spec PyProof.Rows L2 RZ
def wEZ (K : PySem.W.Frag) (vs : List V) (H1 : Hp) (R : It → Hp → Prop) : Prop := ∃ t1 a xs t2 b ys, vs = [.ref a, .ref b] ∧ SrcAt K t1 a xs H1 ∧ SrcAt K t2 b ys H1 ∧ R (ItEZ K [(t1, a, xs), (t2, b, ys)] (min xs.length ys.length) xs ys) H1
def ezD : List DV → Option (List DV) := fun ds => match ds with
  | [d1, d2] => match d1.itm, d2.itm with
    | some xs, some ys => some (enumI 0 (zipD xs ys))
    | _, _ => none
  | _ => none
section
variable {X : Cx} {e e2 : Expr} {ta : TA} {p p2 pos pos2 tpos : Pos} {elts : List Expr} {kk : Nat}
theorem pi_eZ (hg : Gl X "enumerate") (hm : X.mg "enumerate" = none) (hg2 : Gl X "zip") (hm2 : X.mg "zip" = none) (ha : PA X [e, e2] ta)
    (na : starEach [.Call (.Name "zip" p2) [e, e2] [] pos2] X.env = (false, eval (.Call (.Name "zip" p2) [e, e2] [] pos2) X.env) :: starEach [] X.env := by rfl)
    (hs : starEach [e, e2] X.env = (false, eval e X.env) :: starEach [e2] X.env := by rfl) (hpl : (backTo pos2 (starEach [e2] X.env)).any (·.1) = false := by rfl) :
    PI X (.Tuple elts kk tpos) (.Call (.Name "enumerate" p) [.Call (.Name "zip" p2) [e, e2] [] pos2] [] pos) (fun σ H R => ta σ H fun vs H1 => wEZ X.K vs H1 R) := by
  refine ⟨fun pins s σ H R I h => ?_⟩
  refine Call_ (ld_blt I hg hm boot_enumerate (PyProof.Rows.callWith_type1 (args_cons (Call_ (ld_blt I hg2 hm2 PyProof.Rows.boot_zip (PyProof.Rows.callWith_type1 (thn (ha.run pos2 pins s σ H _ I h) fun us s1 ⟨vs, H1, I1, r1, q1⟩ => ?_) hs hpl))) na) na))
  obtain ⟨t1, a, xs, t2, b, ys, ex, hx, hy, q⟩ := q1
  subst ex
  obtain _ | ⟨r, rr⟩ := r1
  obtain _ | ⟨r', rr⟩ := rr
  cases rr
  cases r
  cases r'
  obtain ⟨l1, v1, w1⟩ := inv_src I1 hx
  obtain ⟨l2, v2, w2⟩ := inv_src I1 hy
  refine zip_begins2 (begins_src t1 a l1.toArray) (begins_src t2 b l2.toArray) w1 w2 fun h' hz hTI hTO g1 g2 hsz hk => args_nil ?_
  refine call_enumZ hz fun h2 he k => wpAny_pyIter_enum he ?_
  have e5 : h'.objs.size = s1.heap.objs.size + 5 := hsz
  rw [e5] at he ⊢
  exact ⟨_, _, _, _, H1, rfl, I1.kept (t' := s1.toks) fun c o e => k c o (hk c o e), turn_enumZ t1 t2 w1.lt w2.lt, ⟨⟨_, he⟩, Nat.zero_le _, ⟨.none, false, k _ _ hz, .inl rfl⟩, k _ _ hTI, ⟨_, _, k _ _ hTO⟩, .new (k _ _ g1), .new (k _ _ g2)⟩, fun c hc => have hle : s1.heap.objs.size ≤ c := le_fp (l := [5, 4, 2, 3, 0, 1]) (by simpa using hc)
    I1.fpOk hle (I1.hok.fresh hle), q⟩
end
theorem itr_eZ {K : PySem.W.Frag} {H0 : Hp} {t1 t2 : Bool} {a b : Addr} {vs ws : List V} {xs ys : List DV} {C1 C2 C D1 D2 Ci : Fp} (h1 : ∀ H1, TupKeep H0 H1 → (∀ x ∈ C1, H1 x = H0 x) → SrcAt K t1 a vs H1) (h2 : ∀ H1, TupKeep H0 H1 → (∀ x ∈ C2, H1 x = H0 x) → SrcAt K t2 b ws H1)
    (r1 : RpAll K H0 vs xs [] D1) (r2 : RpAll K H0 ws ys [] D2) (s1 : ∀ x ∈ C1, x ∈ C) (s2 : ∀ x ∈ C2, x ∈ C) (u1 : ∀ x ∈ D1, x ∈ Ci) (u2 : ∀ x ∈ D2, x ∈ Ci) : ItR K H0 (ItEZ K [(t1, a, vs), (t2, b, ws)] (min vs.length ws.length) vs ws) (enumI 0 (zipD xs ys)) C Ci := by
  intro i H k hC hCi
  have hS : SrcsAt K [(t1, a, vs), (t2, b, ws)] H := fun s hs => by
    simp only [List.mem_cons, List.not_mem_nil, or_false] at hs
    rcases hs with rfl | rfl
    · exact h1 H k fun x z => hC x (s1 x z)
    · exact h2 H k fun x z => hC x (s2 x z)
  have hn : (enumI 0 (zipD xs ys)).length = min vs.length ws.length := by rw [enumI_length, zipD_length, r1.length, r2.length]
  refine ⟨fun hi => ⟨hS, hn ▸ hi⟩, fun d hd => ⟨⟨hS, hn ▸ (List.getElem?_eq_some_iff.mp hd).1⟩, fun x H' hy => ?_⟩⟩
  obtain ⟨T1, T2, x', y', rfl, n1, n2, ne, ex, ey, rfl⟩ := hy
  obtain ⟨d0, e0, rfl⟩ := enumI_get hd
  obtain ⟨d1, d2, e1, e2, rfl⟩ := zipD_get e0
  obtain ⟨v, B1, f1, p1, g1⟩ := item_at r1 u1 k hCi e1
  obtain ⟨w, B2, f2, p2, g2⟩ := item_at r2 u2 k hCi e2
  have : x' = v := Option.some.inj (ex.symm.trans f1)
  subst this
  have : y' = w := Option.some.inj (ey.symm.trans f2)
  subst this
  obtain ⟨C1', rp1, sub1⟩ := pair_ok n1 p1 p2
  have n2' : (upd H T1 (.tup [x', y'])) T2 = none := by rw [upd_ne (Ne.symm ne)]; exact n2
  have pi : Rp K (upd H T1 (.tup [x', y'])) (.int (i : Nat)) (.p (.int (0 + (i : Nat)))) [] [] := by rw [Int.zero_add]; exact .p (.int _)
  obtain ⟨C2', rp2, sub2⟩ := pair_ok n2' pi rp1
  exact ⟨(same_upd n1).trans (same_upd n2'), C2', rp2, fun a q => (sub2 a q).elim (fun z => nomatch z) fun z => (sub1 a z).elim (g1 a) (g2 a)⟩
theorem w_eZ {X : Cx} (vs as ds H1 G C) (R : It → Hp → Prop) (r : RpAll X.K H1 vs as G C) (h : ezD as = some ds) (f : ∀ J, Wk X.K H1 J ds G C → R J H1) : wEZ X.K vs H1 R := by
  unfold ezD at h
  split at h
  · rename_i d1 d2
    cases r with
    | @cons v _ _ _ F1 F2 B1 B2 r1 rr dd =>
      cases rr with
      | @cons w _ _ _ F3 F4 B3 B4 r2 r3 dd2 =>
        cases r3
        split at h
        · rename_i xs ys hx hy
          cases h
          obtain ⟨t1, a, vs, Cx, Ci, rfl, l1, l2, l3, l4⟩ := src_any r1 hx
          obtain ⟨t2, b, ws, Cy, Cj, rfl, m1, m2, m3, m4⟩ := src_any r2 hy
          refine ⟨t1, a, vs, t2, b, ws, rfl, l1 H1 (Same.refl H1).tups fun _ _ => rfl, m1 H1 (Same.refl H1).tups fun _ _ => rfl, f _ ⟨Cx ++ Cy, Ci ++ Cj, fun x q => ?_, fun x q => ?_,
            itr_eZ l1 m1 l3 m3 (fun x q => List.mem_append_left _ q) (fun x q => List.mem_append_right _ q) (fun x q => List.mem_append_left _ q) fun x q => List.mem_append_right _ q⟩⟩
          · rcases List.mem_append.mp q with q | q
            · exact ⟨(l2 x q).1, (l2 x q).2.imp (List.mem_append_left _) (List.mem_append_left _)⟩
            · exact ⟨(m2 x q).1, (m2 x q).2.imp (fun z => List.mem_append_right _ (List.mem_append_left _ z)) fun z => List.mem_append_right _ (List.mem_append_left _ z)⟩
          · rcases List.mem_append.mp q with q | q
            · exact List.mem_append_left _ (l4 x q)
            · exact List.mem_append_right _ (List.mem_append_left _ (m4 x q))
        · cases h
  · cases h
def zipP : List PV → List PV → List PV
  | x :: xs, y :: ys => .tup [x, y] :: zipP xs ys
  | _, _ => []
theorem rows_zip {K : PySem.W.Frag} {H : Hp} : ∀ {vs ws : List V} {xs ys : List PV} {us : List V}, RPs K H vs xs → RPs K H ws ys → RowsAt H (zipRows vs ws) us → RPs K H us (zipP xs ys)
  | _, _, _, _, _, .cons a b, .cons c d, .cons h t => .cons (.tup (.inl h) (.cons a (.cons c .nil))) (rows_zip b d t)
  | _, _, _, _, _, .nil, _, .nil => .nil
  | _, _, _, _, _, .cons _ _, .nil, .nil => .nil
def lz2D : List DV → Option DV
  | [d1, d2] => d1.seq.bind fun xs => d2.seq.map fun ys => .lst (zipP xs ys)
  | _ => none
section
variable {X : Cx} {e e2 : Expr} {p p2 pos pos2 tpos : Pos} {elts : List Expr} {kk : Nat} {q : En → Option (List DV)}
theorem siq_eZ (ha : SA X [e, e2] q) (hm : X.mg "enumerate" = none) (hm2 : X.mg "zip" = none) (hg : Gl X "enumerate" := by rfl) (hg2 : Gl X "zip" := by rfl)
    (na : starEach [.Call (.Name "zip" p2) [e, e2] [] pos2] X.env = (false, eval (.Call (.Name "zip" p2) [e, e2] [] pos2) X.env) :: starEach [] X.env := by rfl)
    (hs : starEach [e, e2] X.env = (false, eval e X.env) :: starEach [e2] X.env := by rfl) (hpl : (backTo pos2 (starEach [e2] X.env)).any (·.1) = false := by rfl) :
    SIq X (.Tuple elts kk tpos) (.Call (.Name "enumerate" p) [.Call (.Name "zip" p2) [e, e2] [] pos2] [] pos) (fWq ezD q) :=
  siq_wk (W := wEZ X.K) ha (fun ta h => pi_eZ hg hm hg2 hm2 h na hs hpl) w_eZ
theorem si_eZ (ha : SAR X [e, e2] q) (hm : X.mg "enumerate" = none) (hm2 : X.mg "zip" = none) (hg : Gl X "enumerate" := by rfl) (hg2 : Gl X "zip" := by rfl)
    (na : starEach [.Call (.Name "zip" p2) [e, e2] [] pos2] X.env = (false, eval (.Call (.Name "zip" p2) [e, e2] [] pos2) X.env) :: starEach [] X.env := by rfl)
    (hs : starEach [e, e2] X.env = (false, eval e X.env) :: starEach [e2] X.env := by rfl) (hpl : (backTo pos2 (starEach [e2] X.env)).any (·.1) = false := by rfl) :
    SI X (.Tuple elts kk tpos) (.Call (.Name "enumerate" p) [.Call (.Name "zip" p2) [e, e2] [] pos2] [] pos) (fW ezD q) :=
  si_wk (W := wEZ X.K) ha (fun ta h => pi_eZ hg hm hg2 hm2 h na hs hpl) w_eZ
theorem sq_listZ2 (ha : SA X [e, e2] q) (hm : X.mg "list" = none) (hm2 : X.mg "zip" = none) (hc : X.calm = true := by rfl) (hg : Gl X "list" := by rfl) (hg2 : Gl X "zip" := by rfl)
    (na : starEach [.Call (.Name "zip" p2) [e, e2] [] pos2] X.env = (false, eval (.Call (.Name "zip" p2) [e, e2] [] pos2) X.env) :: starEach [] X.env := by rfl)
    (hs : starEach [e, e2] X.env = (false, eval e X.env) :: starEach [e2] X.env := by rfl) (hpl : (backTo pos2 (starEach [e2] X.env)).any (·.1) = false := by rfl) :
    SQ X (.Call (.Name "list" p) [.Call (.Name "zip" p2) [e, e2] [] pos2] [] pos) (qMk lz2D q) := by
  refine ⟨pe_imp (pe_listZ2 hc hg hm hg2 hm2 ha.pa na hs hpl) ?_⟩
  rintro σ H Q ⟨env, F, B, d, hS, dj, hq, kk⟩
  obtain ⟨as, h1, h2⟩ := Option.bind_eq_some_iff.mp hq
  refine ⟨env, F, B, as, hS, dj, h1, fun vs H1 G C sm r n c => ?_⟩
  unfold lz2D at h2
  split at h2
  · rename_i d1 d2
    obtain ⟨xs, hx, h2⟩ := Option.bind_eq_some_iff.mp h2
    obtain ⟨ys, hy, rfl⟩ := Option.map_eq_some_iff.mp h2
    obtain ⟨v, w, G1, C1, G2, C2, rfl, r1, r2⟩ := RpAll.two r
    obtain ⟨t1, a, ws, rfl, a1, a2⟩ := src_seq r1 hx
    obtain ⟨t2, b, us, rfl, b1, b2⟩ := src_seq r2 hy
    refine ⟨t1, a, ws, t2, b, us, rfl, a1, b1, fun H' ws' p' sm' hr hp => ?_⟩
    have s2 := same_upd (o := .lst ws') hp
    have hrp := rows_zip (a2.ext sm'.tups) (b2.ext sm'.tups) hr
    exact kk _ _ [p'] [] ((sm.trans sm').trans s2) (.lst upd_same (hrp.ext s2.tups)) (fun a z => by simp at z; rw [z]; exact (sm.trans sm').free hp) fun _ q => nomatch q
  · cases h2
end
end Sm

set_option Elab.async false
set_option linter.all false
set_option maxRecDepth 100000
/-! S29: in, not in. -/
namespace Sm
open PySem PySem.Spec PyProof.Rows L2 RZ
theorem units65 {k : Nat} {A : Around} (r : Room k A) : A.units + 65 < cLine := by have := r.un; omega
def PV.v? : PV → Option V
  | .non => some .non
  | .bl b => some (.bl b)
  | .int i => some (.int i)
  | .str x => some (.str x)
  | .tup _ => none
def vsOf : List PV → Option (List V)
  | [] => some []
  | x :: xs => x.v?.bind fun v => (vsOf xs).map fun vs => v :: vs
theorem v_of {K : PySem.W.Frag} {H : Hp} {v w : V} {x : PV} (r : RP K H v x) (e : x.v? = some w) : v = w := by
  cases r <;> first | (cases e; rfl) | cases e
theorem vs_of {K : PySem.W.Frag} {H : Hp} : ∀ {xs : List PV} {vs ws : List V}, RPs K H vs xs → vsOf xs = some ws → vs = ws
  | [], _, _, .nil, e => by cases e; rfl
  | x :: xs, _, _, .cons a b, e => by
    obtain ⟨v, e1, e⟩ := Option.bind_eq_some_iff.mp e
    obtain ⟨vs, e2, rfl⟩ := Option.map_eq_some_iff.mp e
    rw [v_of a e1, vs_of b e2]
def inAns : DV → DV → Option Bool := fun d e => match d with
  | .p x => e.seq.bind fun xs => match x.v?, vsOf xs with
    | some v, some vs => if flatV v && vs.all flatV then some (inV v vs) else none
    | _, _ => match e with
      | .p _ => none
      | _ => if SeqAt.shaped x.toD && SeqAt.shaped (.list (PV.toDs xs)) then some ((PV.toDs xs).any fun z => PyData.eqv z x.toD) else none
  | _ => none
def dIn : DV → DV → Option DV := fun d e => (inAns d e).map fun b => .p (.bl b)
def dNin : DV → DV → Option DV := fun d e => (inAns d e).map fun b => .p (.bl (!b))
section
variable {X : Cx}
theorem op_or {f : Value → Value → Sem Value} {r1 r2 : V → V → Hp → VK → Prop} (a : OpR X f r1) (b : OpR X f r2) : OpR X f (fun x y H Q => r1 x y H Q ∨ r2 x y H Q) := by
  intro pins s σ H x y v u Q I rx ry h
  rcases h with h | h
  · exact a pins s σ H x y v u Q I rx ry h
  · exact b pins s σ H x y v u Q I rx ry h
theorem lst_dp {K : PySem.W.Frag} {H : Hp} {v : V} {d : DV} {xs : List PV} {G C : Fp} (r : Rp K H v d G C) (e : d.seq = some xs) (hn : ∀ x, d ≠ .p x) : Dp K H v (.list (PV.toDs xs)) := by
  obtain ⟨p, ws, rfl, _, h2, h3⟩ := seq_ok r e
  rcases h3 with ⟨h, _⟩ | h3
  · exact absurd h (hn _)
  · exact .lst h3 h2.dp
theorem in_all {d e : DV} {x y : V} {H : Hp} {G1 C1 G2 C2 : Fp} {K : PySem.W.Frag} {b : Bool} (r1 : Rp K H x d G1 C1) (r2 : Rp K H y e G2 C2) (h : inAns d e = some b) :
    (∃ p xs, y = .ref p ∧ (SqL K H p xs ∨ SqT K H p xs) ∧ flatV x = true ∧ xs.all flatV = true ∧ b = inV x xs) ∨ ∃ d ds, Dp K H x d ∧ Dp K H y (.list ds) ∧ SeqAt.shaped d = true ∧ SeqAt.shaped (.list ds) = true ∧ b = ds.any fun z => PyData.eqv z d := by
  unfold inAns at h
  split at h
  · rename_i x0
    obtain ⟨xs, h1, h⟩ := Option.bind_eq_some_iff.mp h
    obtain ⟨rp, _, _⟩ := r1.pure
    split at h
    · rename_i v vs ev evs
      split at h
      · rename_i hf
        rw [Bool.and_eq_true] at hf
        cases h
        obtain ⟨p, ws, rfl, h0, h2, h3⟩ := seq_ok r2 h1
        have e1 := v_of rp ev
        have e2 := vs_of h2 evs
        subst e1 e2
        exact .inl ⟨p, ws, rfl, h0.symm, hf.1, hf.2, rfl⟩
      · cases h
    · split at h
      · cases h
      · rename_i hn
        split at h
        · rename_i hs
          rw [Bool.and_eq_true] at hs
          cases h
          exact .inr ⟨_, _, rp.dp, lst_dp r2 h1 hn, hs.1, hs.2, rfl⟩
        · cases h
  · cases h
theorem sop_in (hu : X.A.units + 65 < cLine) : SOp X (compareOp .In) dIn := by
  refine sop_of (op_or op_in_seq (op_inD hu)) fun x y H Q d1 G1 C1 d2 G2 C2 d r1 r2 e k => ?_
  obtain ⟨b, hb, rfl⟩ := Option.map_eq_some_iff.mp e
  rcases in_all r1 r2 hb with ⟨p, xs, h1, h2, h3, h4, rfl⟩ | ⟨a, ds, h1, h2, h3, h4, rfl⟩
  · exact .inl ⟨p, xs, h1, h2, h3, h4, k _ H [] (Same.refl H) (.p (.bl _)) fun _ q => nomatch q⟩
  · exact .inr ⟨a, ds, h1, h2, h3, h4, k _ H [] (Same.refl H) (.p (.bl _)) fun _ q => nomatch q⟩
theorem sop_nin (hu : X.A.units + 65 < cLine) : SOp X (compareOp .NotIn) dNin := by
  refine sop_of (op_or op_notIn_seq (op_notInD hu)) fun x y H Q d1 G1 C1 d2 G2 C2 d r1 r2 e k => ?_
  obtain ⟨b, hb, rfl⟩ := Option.map_eq_some_iff.mp e
  rcases in_all r1 r2 hb with ⟨p, xs, h1, h2, h3, h4, rfl⟩ | ⟨a, ds, h1, h2, h3, h4, rfl⟩
  · exact .inl ⟨p, xs, h1, h2, h3, h4, k _ H [] (Same.refl H) (.p (.bl _)) fun _ q => nomatch q⟩
  · exact .inr ⟨a, ds, h1, h2, h3, h4, k _ H [] (Same.refl H) (.p (.bl _)) fun _ q => nomatch q⟩
end
end Sm

set_option Elab.async false
set_option linter.all false
set_option maxRecDepth 100000
/-! S30: the new calls by equations. -/
namespace Sm
open PySem PySem.Spec PyProof.Rows L2
theorem dSumA_lst (ns : List Int) : dSumA [.lst (ns.map PV.int)] = some (.p (.int ns.sum)) := by simp [dSumA, DV.seq]
theorem dSumA_ro (ns : List Int) : dSumA [.ro (ns.map PV.int)] = some (.p (.int ns.sum)) := by simp [dSumA, DV.seq]
theorem dSumA_fz (ns : List Int) : dSumA [.fz (ns.map PV.int)] = some (.p (.int ns.sum)) := by simp [dSumA, DV.seq]
theorem dSumA_tup (ns : List Int) : dSumA [.p (.tup (ns.map PV.int))] = some (.p (.int ns.sum)) := by simp [dSumA, DV.seq]
theorem itm_tup (xs : List PV) : DV.itm (.p (.tup xs)) = some (xs.map .p) := rfl
theorem itm_lst (xs : List PV) : DV.itm (.lst xs) = some (xs.map .p) := rfl
theorem zipD_p : ∀ (xs ys : List PV), zipD (xs.map .p) (ys.map .p) = (xs.zip ys).map fun p => DV.p (.tup [p.1, p.2])
  | x :: xs, y :: ys => by simp [zipD, pairD, zipD_p xs ys]
  | [], _ => by simp [zipD]
  | _ :: _, [] => by simp [zipD]
theorem zip3D_p : ∀ (xs ys zs : List PV), zip3D (xs.map .p) (ys.map .p) (zs.map .p) = (xs.zip (ys.zip zs)).map fun p => DV.p (.tup [p.1, p.2.1, p.2.2])
  | x :: xs, y :: ys, z :: zs => by simp [zip3D, tripD, zip3D_p xs ys zs]
  | [], _, _ => by simp [zip3D]
  | _ :: _, [], _ => by simp [zip3D]
  | _ :: _, _ :: _, [] => by simp [zip3D]
theorem z2D_tup (xs ys : List PV) : z2D [.p (.tup xs), .p (.tup ys)] = some ((xs.zip ys).map fun p => DV.p (.tup [p.1, p.2])) := by
  rw [← zipD_p]; rfl
theorem z3D_tup (xs ys zs : List PV) : z3D [.p (.tup xs), .p (.tup ys), .p (.tup zs)] = some ((xs.zip (ys.zip zs)).map fun p => DV.p (.tup [p.1, p.2.1, p.2.2])) := by
  rw [← zip3D_p]; rfl
def enumP (n : Int) : List PV → List DV
  | [] => []
  | x :: xs => .p (.tup [.int n, x]) :: enumP (n + 1) xs
theorem enumI_p : ∀ (xs : List PV) (n : Int), enumI n (xs.map .p) = enumP n xs
  | [], _ => rfl
  | x :: xs, n => by simp [enumI, enumP, pairD, enumI_p xs]
theorem ezD_tup (xs ys : List PV) : ezD [.p (.tup xs), .p (.tup ys)] = some (enumP 0 ((xs.zip ys).map fun p => .tup [p.1, p.2])) := by
  rw [← enumI_p, List.map_map]
  show some (enumI 0 (zipD (xs.map .p) (ys.map .p))) = _
  rw [zipD_p]; rfl
theorem e1D_tup (xs : List PV) : e1D [.p (.tup xs)] = some (enumP 0 xs) := by rw [← enumI_p]; rfl
theorem e2D_tup (xs : List PV) {k : Int} (h : lg 62 k = true) : e2D [.p (.tup xs), .p (.int k)] = some (enumP k xs) := by
  rw [← enumI_p]
  show (if lg 62 k = true then _ else _) = _
  rw [if_pos h]; rfl
theorem lz2D_tup (xs ys : List PV) : lz2D [.p (.tup xs), .p (.tup ys)] = some (.lst ((xs.zip ys).map fun p => .tup [p.1, p.2])) := by
  have : ∀ xs ys : List PV, zipP xs ys = (xs.zip ys).map fun p => PV.tup [p.1, p.2] := by
    intro xs
    induction xs with
    | nil => intro ys; simp [zipP]
    | cons x xs ih => intro ys; cases ys with
      | nil => simp [zipP]
      | cons y ys => simp [zipP, ih]
  rw [← this]; rfl
theorem dRev_lst (xs : List PV) : dRev (.lst xs) = some (.lst xs.reverse) := rfl
theorem lt_int (a b : Int) : (PV.int a).lt (.int b) = decide (a < b) := by
  simp [PV.lt, PV.toD, PySem.W.dataLt_int]
theorem lt_ii (a b c d : Int) : (PV.tup [.int a, .int b]).lt (.tup [.int c, .int d]) = decide (a < c ∨ (a = c ∧ b < d)) := by
  simp only [PV.lt, PV.toD, PV.toDs]
  exact PySem.W.dataLt_ii a b c d
theorem min_map {α : Type} (f : α → PV) (lt : α → α → Bool) (h : ∀ a b, (f a).lt (f b) = lt a b) (x : α) (xs : List α) : minP (f x) (xs.map f) = f (xs.foldl (fun a y => if lt y a then y else a) x) := by
  unfold minP
  induction xs generalizing x with
  | nil => rfl
  | cons y ys ih =>
    simp only [List.map_cons, List.foldl_cons, h]
    split <;> exact ih _
theorem fold_best {α : Type} (le : α → α → Prop) (lt : α → α → Bool) (refl : ∀ a, le a a) (tr : ∀ a b c, le a b → le b c → le a c) (h1 : ∀ a b, lt a b = true → le a b) (h2 : ∀ a b, lt a b = false → le b a) (x : α) (xs : List α) :
    xs.foldl (fun a y => if lt y a then y else a) x ∈ x :: xs ∧ ∀ y ∈ x :: xs, le (xs.foldl (fun a y => if lt y a then y else a) x) y := by
  induction xs generalizing x with
  | nil => simp [refl]
  | cons y ys ih =>
    simp only [List.foldl_cons]
    by_cases h : lt y x = true
    · rw [if_pos h]
      obtain ⟨a1, a2⟩ := ih y
      refine ⟨List.mem_cons_of_mem _ a1, fun z hz => ?_⟩
      rcases List.mem_cons.mp hz with rfl | hz
      · exact tr _ _ _ (a2 y (by simp)) (h1 _ _ h)
      · exact a2 z hz
    · rw [if_neg h]
      obtain ⟨a1, a2⟩ := ih x
      refine ⟨?_, fun z hz => ?_⟩
      · rcases List.mem_cons.mp a1 with q | q
        · rw [q]; simp
        · simp [q]
      · rcases List.mem_cons.mp hz with rfl | hz
        · exact a2 _ (by simp)
        · rcases List.mem_cons.mp hz with rfl | hz
          · exact tr _ _ _ (a2 x (by simp)) (h2 _ _ (by simpa using h))
          · exact a2 z (by simp [hz])
theorem likes_map {α : Type} (f : α → PV) (h : ∀ a b, PySem.W.alike (f a).toD (f b).toD = true) (hn : ∀ a, (match f a with | .non => false | _ => true) = true) (hd : ∀ a, (f a).toD.depth ≤ 60) (xs : List α) : likes (xs.map f) = true := by
  simp only [likes, Bool.and_eq_true, List.all_eq_true, decide_eq_true_eq, List.mem_map]
  refine ⟨⟨?_, ?_⟩, ?_⟩
  · rintro _ ⟨a, _, rfl⟩ _ ⟨b, _, rfl⟩; exact h a b
  · rintro _ ⟨a, _, rfl⟩; exact hn a
  · rintro _ ⟨a, _, rfl⟩; exact hd a
theorem likes_int (xs : List Int) : likes (xs.map PV.int) = true := likes_map _ (fun a b => by simp [PV.toD, PySem.W.alike]) (fun _ => rfl) (fun a => by simp [PV.toD, PyData.depth]) xs
theorem likes_ii (xs : List (Int × Int)) : likes (xs.map fun p => PV.tup [.int p.1, .int p.2]) = true :=
  likes_map _ (fun a b => by simp [PV.toD, PV.toDs, PySem.W.alike, PySem.W.alikeAll]) (fun _ => rfl) (fun a => by simp [PV.toD, PV.toDs, PyData.depth, PyData.depthAll]) xs
theorem dMin1_i {l : List Int} (h : l ≠ []) : ∃ m ∈ l, dMin1 [.lst (l.map PV.int)] = some (.p (.int m)) ∧ ∀ q ∈ l, m ≤ q := by
  cases l with
  | nil => exact absurd rfl h
  | cons x xs =>
    obtain ⟨a1, a2⟩ := fold_best (fun a b : Int => a ≤ b) (fun a b => decide (a < b)) (fun a => Int.le_refl a) (fun a b c => Int.le_trans) (fun a b h => by have := of_decide_eq_true h; omega) (fun a b h => by have := of_decide_eq_false h; omega) x xs
    refine ⟨_, a1, ?_, a2⟩
    have hl := likes_int (x :: xs)
    rw [List.map_cons] at hl
    have e := min_map PV.int (fun a b => decide (a < b)) lt_int x xs
    show (if likes (PV.int x :: xs.map PV.int) = true then _ else _) = _
    rw [if_pos hl, e]
theorem dMin1_ii {l : List (Int × Int)} (h : l ≠ []) : ∃ m ∈ l, dMin1 [.lst (l.map fun p => PV.tup [.int p.1, .int p.2])] = some (.p (.tup [.int m.1, .int m.2])) ∧ ∀ q ∈ l, m.1 ≤ q.1 := by
  cases l with
  | nil => exact absurd rfl h
  | cons x xs =>
    obtain ⟨a1, a2⟩ := fold_best (fun a b : Int × Int => a.1 ≤ b.1) (fun a b => decide (a.1 < b.1 ∨ (a.1 = b.1 ∧ a.2 < b.2))) (fun a => Int.le_refl _) (fun a b c => Int.le_trans) (fun a b h => by have := of_decide_eq_true h; omega) (fun a b h => by have := of_decide_eq_false h; omega) x xs
    refine ⟨_, a1, ?_, a2⟩
    have hl := likes_ii (x :: xs)
    rw [List.map_cons] at hl
    have e := min_map (fun p : Int × Int => PV.tup [.int p.1, .int p.2]) (fun a b => decide (a.1 < b.1 ∨ (a.1 = b.1 ∧ a.2 < b.2))) (fun a b => lt_ii _ _ _ _) x xs
    show (if likes (PV.tup [.int x.1, .int x.2] :: xs.map _) = true then _ else _) = _
    rw [if_pos hl, e]
theorem dSorted_le {l : List Int} (h : l.Pairwise (· ≤ ·)) : dSorted [.lst (l.map PV.int)] = some (.lst (l.map PV.int)) := by
  have e : sortP (l.map PV.int) = l.map PV.int := by
    unfold sortP
    rw [List.mergeSort_of_pairwise]
    rw [List.pairwise_map]
    refine h.imp fun {a b} hab => ?_
    rw [lt_int]
    simp; omega
  have hs : sortOk (l.map PV.int) = true := by simp [sortOk, List.all_map, Function.comp_def, atomP]
  show (if (likes (l.map PV.int) && sortOk (l.map PV.int)) = true then _ else _) = _
  rw [likes_int, hs, e]; rfl
end Sm

set_option Elab.async false
set_option linter.all false
set_option maxRecDepth 100000
/-! S31: calls whose arguments may be new lists: they are lent. -/
namespace Sm
open PySem PySem.Spec PyProof.Rows L2
def qCallL (m : Mir) (q : En → Option (List DV)) : En → Option DV := fun env => (q env).bind fun ds => (m (DV.lends ds)).map fun x => x.1
def eCallML (m : Mir) (j : Nat) (f : En → Option (List DV × En)) : En → Option (DV × En) := fun env => match env.g j with
  | none => none
  | some _ => (f env).bind fun x => match x.2.g j with
    | none => none
    | some d0 => (m (d0 :: DV.lends x.1)).bind fun y => match y.2 with
      | d1 :: _ => if d1.owned then some (y.1, x.2.set j (some d1)) else none
      | [] => none
section
variable {X : Cx} {e a b c : Expr} {es : List Expr} {p pos : Pos} {k j : Nat} {x : Str} {m : Mir}
theorem sq_callL {q : En → Option (List DV)} (F : Fn X.prog X.w X.K X.mg X.base k x m) (hr : Room j X.A) (hk : k ≤ j) (h : SA X (e :: es) q) (hg : Gl X x := by rfl) (hdb : (x == ("__debug__" : Str)) = false := by decide)
    (he : starEach (e :: es) X.env = (false, eval e X.env) :: starEach es X.env := by rfl) (hpl : (backTo pos (starEach es X.env)).any (·.1) = false := by rfl) :
    SQ X (.Call (.Name x p) (e :: es) [] pos) (qCallL m q) := by
  obtain ⟨f, fd, ps, G, hm, hkp, hb⟩ := F.ex
  refine ⟨pe_imp (pe_call (G.mono hk) hr hg hm hkp hb .nil pass0 h.pa hdb he hpl) ?_⟩
  rintro σ H Q ⟨env, F, B, d, hS, dj, hq, kk⟩
  obtain ⟨ds, h1, hq⟩ := Option.bind_eq_some_iff.mp hq
  obtain ⟨⟨d', ds'⟩, h2, rfl⟩ := Option.map_eq_some_iff.mp hq
  refine ⟨env, F, B, ds, hS, dj, h1, fun vs H1 G1 C1 sm r n c => ?_⟩
  show spF X.K m (vs ++ []) H1 Q E0
  rw [vals0]
  obtain ⟨C2, r2, _⟩ := r.lend
  refine ⟨DV.lends ds, [], C2, d', ds', r2, (fun a q => nomatch q), h2, r2.length.symm, fun v H' F' B' G2 k1 _ _ _ r2 n2 _ => ?_⟩
  refine kk v H' G2 [] (fun a o e => k1 a o (sm a o e) fun z => nomatch z) r2 (fun a q => ?_) fun _ q => nomatch q
  rcases n2 a q with z | z
  · cases z
  · exact sm.free z
theorem se_callML {y : Str} {f : En → Option (List DV × En)} {yp : Pos} (F : Fn X.prog X.w X.K X.mg X.base k x m) {i : Nat} (hr : Room i X.A) (hk : k ≤ i) (h : SAM X j es f) (hN : X.N[j]? = some y := by rfl) (hg : Gl X x := by rfl)
    (hv : Vis X.env.scope y := by first | exact Or.inl rfl | exact Or.inr (Or.inl rfl) | exact Or.inr (Or.inr rfl)) (hd : (y == ("__debug__" : Str)) = false := by decide) (hcd : (y == ("__classdict__" : Str)) = false := by decide)
    (hdb : (x == ("__debug__" : Str)) = false := by decide) (he : starEach (.Name y yp :: es) X.env = (false, eval (.Name y yp) X.env) :: starEach es X.env := by rfl) (hpl : (backTo pos (starEach es X.env)).any (·.1) = false := by rfl) :
    SE X (.Call (.Name x p) (.Name y yp :: es) [] pos) (eCallML m j f) := by
  obtain ⟨fa, fd, ps, G, hm, hkp, hb⟩ := F.ex
  refine ⟨pe_imp (pe_call (G.mono hk) hr hg hm hkp hb .nil pass0 (pa_cons (pe_var hN hv hd hcd) h.pa he) hdb he hpl) ?_⟩
  rintro σ H Q ⟨env, F, B, d, env', hS, dj, hq, kk⟩
  unfold eCallML at hq
  split at hq
  · cases hq
  · rename_i d00 h0
    obtain ⟨⟨ds, e1⟩, h1, hq⟩ := Option.bind_eq_some_iff.mp hq
    dsimp only at hq
    split at hq
    · cases hq
    · rename_i d0 h2
      obtain ⟨⟨d', ds'⟩, h3, hq⟩ := Option.bind_eq_some_iff.mp hq
      dsimp only at hq
      split at hq
      · rename_i d1 rest
        split at hq
        · rename_i ho
          cases hq
          obtain ⟨v, G0, C0, ev, r0, _, _⟩ := hS.get (En.g_some h0)
          refine ⟨v, ev, env, F, B, ds, e1, hS, dj, h1, fun vs H1 F1 B1 G1 C1 v' d0' G2 F3 B3 k1 S1 n1 b1 eg ew rr g2 S3 f3 b3 dg r1 g1 dg1 c1 => ?_⟩
          show spF X.K m ((v :: vs) ++ []) H1 Q E0
          rw [vals0]
          rw [h2] at eg; cases eg
          rw [ev] at ew; cases ew
          have djF1 := dj_of hS dj n1 b1
          obtain ⟨C2, r1', c2⟩ := r1.lend
          have rall : RpAll X.K H1 (v :: vs) (d0 :: DV.lends ds) (G2 ++ []) ([] ++ C2) := .cons rr r1' fun _ _ z => nomatch z
          refine ⟨_, _, _, _, _, rall, fun a q z => ?_, h3, rall.length.symm, fun w H' F' B' G4 k2 r2 n2 b2 rw0 n4 d4 => ?_⟩
          · have q : a ∈ G2 := by simpa using q
            rcases c2 a (by simpa using z) with z | z
            · exact dg1 a z (g2 a q)
            · rcases c1 a z with z | z
              · exact dg a q z
              · exact djF1 a (g2 a q) z
          · cases r2 with
            | @cons _ _ _ _ Fa Fb Ba Bb ra rb dab =>
              have hBa := ra.of_owned ho
              subst hBa
              have own2 : ∀ x ∈ G2 ++ [], ∃ o, H1 x = some o ∧ Mub o := rall.own
              have dj3 : Disj (G2 ++ []) F3 := fun a q z => dg a (by simpa using q) z
              have S3' := S3.keep k2 own2 dj3 fun a q z => djF1 a (g2 a (by simpa using q)) (b3 a z)
              have hj : j < (e1.set j none).length := by
                rw [List.length_set]
                exact (List.getElem?_eq_some_iff.mp (En.g_some h2)).1
              have nFa : ∀ a ∈ Fa, a ∉ F3 := fun a q z => by
                rcases n2 a (List.mem_append_left _ q) with y | y
                · exact dj3 a y z
                · obtain ⟨o, e, _⟩ := S3.own a z
                  rw [y] at e; cases e
              obtain ⟨F5, B5, S5, w1, w2⟩ := S3'.set hj ra nFa
              rw [List.set_set, set_self ev] at S5
              have n12 : Nw F H (G2 ++ []) := fun a q => n1 a (g2 a (by simpa using q))
              refine kk w H' F5 B5 G4 (k1.trans k2 n12) S5 (fun a q => ?_) (fun a q => ?_) rw0 (fun a q => ?_) fun a q z => ?_
              · rcases w1 a q with q | q
                · exact Nw.trans k1 n12 (fun a q => n2 a (List.mem_append_left _ q)) a q
                · exact n1 a (f3 a q)
              · rcases w2 a q with q | q
                · cases q
                · exact b1 a (b3 a q)
              · exact Nw.trans k1 n12 n4 a q
              · rcases w1 a z with z | z
                · exact d4 a q (List.mem_append_left _ z)
                · rcases n4 a q with y | y
                  · exact dj3 a y z
                  · obtain ⟨o, e, _⟩ := S3.own a z
                    rw [y] at e; cases e
        · cases hq
      · cases hq
end
end Sm

set_option Elab.async false
set_option linter.all false
set_option maxRecDepth 100000
set_option maxHeartbeats 4000000
/-! S32: a tuple times an int. -/
namespace Sm
open PySem PySem.Spec PyProof.Rows L2
theorem tuple_mul1 (l : Addr) (items : Array Value) (n : Nat) (dd : Option Addr) (sl : Array (Option Value)) (u : Tok) :
    Meets (Builtin.«tuple.__mul__» ⟨[.ref l, .int 1 u], []⟩) (fun _ R s => s.heap.get? l = some { cls := .type "tuple", dict := dd, data := .seq items n, slots := sl } ∧ R (.ok (.ret (Value.ref l))) s) :=
  .of_wp fun prog w A R s h => by
    obtain ⟨hp, g, d, tk, os⟩ := s
    obtain ⟨hl, h⟩ := h
    have f1 := AutoSeq1.idx_int
    wp_walk using wpAny_loadPart' hl
    repeat (first
      | (refine wpAny_ite_true (decide_eq_true (by simp)) ?_; wp_walk using wpAny_loadPart' hl)
      | (refine wpAny_ite_false (decide_eq_false (by simp)) ?_; wp_walk using wpAny_loadPart' hl))
    exact ⟨_, rfl, h⟩
theorem tuple_mul0 (l : Addr) (items : Array Value) (n : Nat) (dd : Option Addr) (sl : Array (Option Value)) (x : Int) (u : Tok) (c0 : (decide (x < -(2 ^ 63)) || decide (x ≥ 2 ^ 63)) = false) (c1 : (items.isEmpty || x == 1) = false) (c2 : (decide (x ≤ 0) || items.isEmpty) = true) :
    Meets (Builtin.«tuple.__mul__» ⟨[.ref l, .int x u], []⟩) (fun _ R s => s.heap.get? l = some { cls := .type "tuple", dict := dd, data := .seq items n, slots := sl } ∧
      R (.ok (.ret (Value.ref s.heap.objs.size))) { s with heap := s.heap.push { cls := Value.type "tuple", data := Data.seq #[] }, toks := s.toks }) :=
  .of_wp fun prog w A R s h => by
    obtain ⟨hp, g, d, tk, os⟩ := s
    obtain ⟨hl, h⟩ := h
    have f1 := AutoSeq1.idx_int
    wp_walk using wpAny_loadPart' hl
    repeat (first
      | (refine wpAny_ite_false (decide_eq_false (by rw [c0]; exact Bool.false_ne_true)) ?_; wp_walk using wpAny_loadPart' hl)
      | (refine wpAny_ite_false (decide_eq_false (by rw [c1]; exact Bool.false_ne_true)) ?_; wp_walk using wpAny_loadPart' hl)
      | (refine wpAny_ite_true (decide_eq_true c2) ?_; wp_walk using wpAny_loadPart' hl))
    exact ⟨_, rfl, h⟩
def rRepA (K : PySem.W.Frag) : R2 := fun x y H Q => ∃ l k xs, x = .ref l ∧ y = .int k ∧ SqT K H l xs ∧ xs ≠ [] ∧ -1000 ≤ k ∧ k ≤ 1000 ∧ xs.length ≤ 1000 ∧ (k = 1 → Q x H) ∧ (k ≠ 1 → ∀ p, H p = none → Q (.ref p) (upd H p (.tup (List.replicate k.toNat xs).flatten)))
section
variable {X : Cx}
theorem op_repA : OpR X (binaryOp .Mult) (rRepA X.K) := by
  intro pins s σ H x y v u Q I rx ry h
  obtain ⟨l, k, xs, rfl, rfl, hT, hne, h0, h1, hz, q1, q2⟩ := h
  by_cases h2 : 2 ≤ k
  · exact op_repT pins s σ H _ _ v u Q I rx ry ⟨l, k, xs, rfl, rfl, hT, hne, h2, h1, hz, q2 (by omega)⟩
  cases rx
  obtain ⟨t, rfl⟩ := ry
  obtain ⟨its, r, ⟨⟨cls, dd, data, sl⟩, ho, hc, n, hd⟩, hs⟩ := I.tuple hT
  simp only at hc hd
  subst hc hd
  have hi : its.toArray.isEmpty = false := by
    cases its with
    | nil => exact absurd (List.eq_nil_of_length_eq_zero r.length) hne
    | cons a b => rfl
  by_cases h3 : k = 1
  · subst h3
    refine wpAny_binaryOp_repeat_ref (T := "tuple") (U := "int") (by decide) ⟨_, ho, rfl⟩ (fun s' => typeIs_int s' 1 t) noFill_tuple_mul F.fills_int_mul F.slot_int_rmul repeat_tuple F.slot_int_index.lookup
      (call_meets F.slot_int_rmul (typeIs_int s 1 t) F.entry_int_rmul (F.args_int_rmul_2 _ _) (int_rmul_tuple 1 t l its.toArray n dd sl)
        ⟨ho, rfl, ⟨_, ho, rfl⟩, call_meets F.slot_tuple_mul ⟨_, ho, rfl⟩ F.entry_tuple_mul (F.args_tuple_mul_2 _ _) (tuple_mul1 l its.toArray n dd sl t) ⟨ho, ?_⟩⟩)
    exact ⟨.ref l, H, I, rfl, q1 rfl⟩
  · have c0 : (decide (k < -(2 ^ 63)) || decide (k ≥ 2 ^ 63)) = false := by
      rw [decide_eq_false (by omega), decide_eq_false (by omega)] <;> rfl
    have c1 : (its.toArray.isEmpty || k == 1) = false := by
      rw [hi, Bool.false_or]
      exact beq_eq_false_iff_ne.mpr h3
    have c2 : (decide (k ≤ 0) || its.toArray.isEmpty) = true := by
      rw [hi, Bool.or_false]
      exact decide_eq_true (by omega)
    refine wpAny_binaryOp_repeat_ref (T := "tuple") (U := "int") (by decide) ⟨_, ho, rfl⟩ (fun s' => typeIs_int s' k t) noFill_tuple_mul F.fills_int_mul F.slot_int_rmul repeat_tuple F.slot_int_index.lookup
      (call_meets F.slot_int_rmul (typeIs_int s k t) F.entry_int_rmul (F.args_int_rmul_2 _ _) (int_rmul_tuple k t l its.toArray n dd sl)
        ⟨ho, rfl, ⟨_, ho, rfl⟩, call_meets F.slot_tuple_mul ⟨_, ho, rfl⟩ F.entry_tuple_mul (F.args_tuple_mul_2 _ _) (tuple_mul0 l its.toArray n dd sl k t c0 c1 c2) ⟨ho, ?_⟩⟩)
    have e0 : (List.replicate k.toNat xs).flatten = [] := by
      have : k.toNat = 0 := by omega
      rw [this]; rfl
    have q3 := q2 h3
    rw [e0] at q3
    exact ⟨.ref s.heap.objs.size, _, I.laid (t' := s.toks) (o := .tup []) (fun b ob q => Heap.get?_push_of_some _ q) (Nat.le_refl _) ⟨Nat.zero_le _, [], .nil, IsTup.new _ _⟩, rfl, q3 _ (I.hok.fresh (Nat.le_refl _))⟩
def dMulT : DV → DV → Option DV := fun d e => match d, e with
  | .p (.tup xs), .p (.int k) => if !xs.isEmpty && lg 9 k && decide (xs.length ≤ 1000) then some (.p (.tup (List.replicate k.toNat xs).flatten)) else none
  | _, _ => none
theorem sop_mulT : SOp X (binaryOp .Mult) dMulT := by
  refine sop_of op_repA fun x y H Q d1 G1 C1 d2 G2 C2 d r1 r2 e k => ?_
  unfold dMulT at e
  split at e
  · rename_i xs n
    split at e
    · rename_i hh
      cases e
      simp only [Bool.and_eq_true, decide_eq_true_eq, Bool.not_eq_true', List.isEmpty_eq_false_iff] at hh
      obtain ⟨⟨h1, h2⟩, h3⟩ := hh
      have h2 := lg_lt h2 (by decide)
      obtain ⟨rp1, _, _⟩ := r1.pure
      obtain ⟨rp2, _, _⟩ := r2.pure
      cases rp2
      cases rp1 with
      | @tup l ws _ t r =>
        refine ⟨l, n, ws, rfl, rfl, t.seq, fun z => h1 ?_, by omega, by omega, by rw [r.length]; exact h3, fun z => ?_, fun _ p hp => ?_⟩
        · subst z; cases r; rfl
        · subst z
          have e1 : (List.replicate (1 : Int).toNat xs).flatten = xs := by simp
          rw [e1] at k
          exact k _ H [] (Same.refl H) (.p (.tup t r)) fun _ q => nomatch q
        · have sm := same_upd (o := .tup (List.replicate n.toNat ws).flatten) hp
          exact k _ _ [] sm (.p (.tup (.inl upd_same) ((r.rep _).ext sm.tups))) fun _ q => nomatch q
    · cases e
  · cases e
end
end Sm

set_option Elab.async false
set_option linter.all false
set_option maxRecDepth 100000
set_option maxHeartbeats 0
namespace k25G
open PySem PySem.Spec PyProof.Rows L2 Sm
def top (i : Nat) : Stmt := PySem.Challenge.pw_pouredastold_k25_whole_sixty_seasons_fil.main.body.getD i (.Pass ⟨0, 0, 0, 0⟩)
abbrev s__law_cells : Stmt := top 39
abbrev s__law_pot : Stmt := top 36
abbrev s__law_cost : Stmt := top 41
abbrev s__law_least : Stmt := top 40
abbrev s__law_take : Stmt := top 37
abbrev s__law_of : Stmt := top 38
abbrev s_is_int : Stmt := top 6
abbrev s_are_ints : Stmt := top 7
abbrev s_look_at_lots : Stmt := top 13
abbrev s_told_best : Stmt := top 17
abbrev s_best_plan : Stmt := top 18
abbrev s_is_plan : Stmt := top 14
abbrev s_told_cost : Stmt := top 15
abbrev s_cost_of : Stmt := top 16
abbrev s_least_cost : Stmt := top 19
abbrev s_shows_best_plan : Stmt := top 20
abbrev s__law_is_plan_right : Stmt := top 42
abbrev s__law_short : Stmt := top 43
abbrev s_look_at_storing : Stmt := top 27
abbrev s_told_plan : Stmt := top 31
abbrev s_told_short : Stmt := top 28
abbrev s_least_room : Stmt := top 34
abbrev s__law_is_room_right : Stmt := top 45
abbrev s_does_store : Stmt := top 32
abbrev s_how_much : Stmt := top 29
abbrev s_is_told : Stmt := top 8
abbrev s_shows_store : Stmt := top 33
abbrev s_store : Stmt := top 30
abbrev s__law_is_store_right : Stmt := top 44
abbrev s__law_right : Stmt := top 46
abbrev s_law : Stmt := top 47
abbrev FnP (K : PySem.W.Frag) (x : Str) (st : Stmt) (f : Addr) (fd : FuncData) : Prop := FunD K x x (defArgs st) (defBody st) (defScope st) [] [] f fd
structure Fr (mg : Str → Option Value) : Prop where
  f_abs : mg "abs" = none
  f_all : mg "all" = none
  f_bool : mg "bool" = none
  f_enumerate : mg "enumerate" = none
  f_int : mg "int" = none
  f_isinstance : mg "isinstance" = none
  f_len : mg "len" = none
  f_list : mg "list" = none
  f_max : mg "max" = none
  f_min : mg "min" = none
  f_range : mg "range" = none
  f_sorted : mg "sorted" = none
  f_str : mg "str" = none
  f_sum : mg "sum" = none
  f_tuple : mg "tuple" = none
  f_zip : mg "zip" = none
  c_CROWD : GS mg "CROWD" "crowd"
  c_MOST_AMOUNT : GI mg "MOST_AMOUNT" 1000000
  c_MOST_ASKED : GI mg "MOST_ASKED" 10000
  c_MOST_COST : GI mg "MOST_COST" 1000000
  c_MOST_SEASONS_lots : GI mg "MOST_SEASONS_lots" 60
  c_MOST_SEASONS_storing : GI mg "MOST_SEASONS_storing" 100
  c_PLAN : GS mg "PLAN" "plan"
  c_THREE : GI mg "THREE" 3
def b__law_cells : Bk := sRet (ofQ (qLr1 (qMk dMax2 (aCons (qC (.int 1)) (aCons (qMk dMin2 (aCons (qVar 1) (aCons (qMk dLen (aCons (qVar 0) (aNil))) (aNil)))) (aNil))))))
def m__law_cells : Mir := runF [false, false] 2 b__law_cells
def b__law_pot : Bk := sSeq (sAsg (ofQ (qIf (bQ (qOp dLt (qVar 1) (qMk dLen (aCons (qVar 0) (aNil))))) (qOp dIx (qVar 0) (qVar 1)) (qOp dAdd (qOp dAdd (qOp dMod (qMk dInt (aCons (qMk dSumA (aCons (qSl (qVar 0) (oNone) (oSome (qC (.int 1)))) (aNil))) (aNil))) (qC (.int 1000211))) (qOp dMul (qC (.int 4639)) (qVar 1))) (qC (.int 3163))))) (gSet 2)) (sSeq (sAsg (ofQ (qOp dMul (qOp dMod (qMk dInt (aCons (qMk dAbs (aCons (qVar 2) (aNil))) (aNil))) (qOp dPow (qOp dPow (qC (.int 10)) (qC (.int 60))) (qC (.int 5)))) (qMk dInt (aCons (qOp dGe (qMk dAbs (aCons (qVar 2) (aNil))) (qOp dPow (qC (.int 10)) (qC (.int 18)))) (aNil))))) (gSet 3)) (sSeq (sAsg (ofQ (qOp dMod (qMk dInt (aCons (qVar 2) (aNil))) (qC (.int 2305843009213693951)))) (gSet 4)) (sRet (eMk mkL (aeCons (eMove 3) (aeCons (ofQ (qOp dMod (qMk dInt (aCons (qOp dAdd (qOp dAdd (qOp dMul (qVar 4) (qC (.int 72161))) (qOp dMul (qOp dMul (qC (.int 10853)) (qVar 1)) (qVar 1))) (qC (.int 2843))) (aNil))) (qC (.int 2305843009213693921)))) (aeCons (ofQ (qC (.int 0))) (aeNil))))))))
def m__law_pot : Mir := runF [false, false] 5 b__law_pot
def b__law_cost_1 : Bk := sSeq (sPar [4, 5] (aeCons (ofQ (qOp dSub (qOp dAdd (qVar 4) (qVar 7)) (qVar 6))) (aeCons (ofQ (qOp dAdd (qVar 5) (qIf (bQ (qOp dGt (qVar 7) (qC (.int 0)))) (qVar 1) (qC (.int 0))))) (aeNil)))) (sSeq (sIf (tQ (qOp dLt (qVar 4) (qC (.int 0)))) (sRet (ofQ (qC .non))) (sNext)) (sAsg (ofQ (qOp dAdd (qVar 5) (qOp dMul (qVar 2) (qVar 4)))) (gSet 5)))
def b__law_cost : Bk := sSeq (sAsg (eMk mkT (aeCons (ofQ (qC (.int 0))) (aeCons (ofQ (qC (.int 0))) (aeNil)))) (gTup' 2 (gCons' (gSet 4) (gCons' (gSet 5) (gNil'))))) (sSeq (sFor (fW z2D (aCons (qF (qVar 0)) (aCons (qF (qVar 3)) (aNil)))) (gTup' 2 (gCons' (gSet 6) (gCons' (gSet 7) (gNil')))) b__law_cost_1) (sRet (ofQ (qIf (bQ (qOp dEq (qVar 4) (qC (.int 0)))) (qVar 5) (qC .non)))))
def m__law_cost : Mir := runF [false, false, false, false] 8 b__law_cost
def b__law_least_1 : Bk := sSeq (sAsg (ofQ (qMk dSumA (aCons (qSl (qVar 0) (oSome (qVar 6)) (oSome (qVar 4))) (aNil)))) (gSet 7)) (sSeq (sAsg (ofQ (qMk dSumA (aCons (qCompL [9, 10] (fWq e2D (aCons (qSl (qVar 0) (oSome (qVar 6)) (oSome (qVar 4))) (aCons (qVar 6) (aNil)))) (gTup' 2 (gCons' (gSet 9) (gCons' (gSet 10) (gNil')))) (cYesQ) (qOp dMul (qVar 10) (qOp dSub (qVar 9) (qVar 6)))) (aNil)))) (gSet 8)) (sDrop (eAppend 5 (ofQ (qOp dAdd (qOp dAdd (qOp dIx (qVar 3) (qVar 6)) (qIf (bQ (qOp dGt (qVar 7) (qC (.int 0)))) (qVar 1) (qC (.int 0)))) (qOp dMul (qVar 2) (qVar 8)))))))
def b__law_least_2 : Bk := sSeq (sAsg (eMk mkL (aeNil)) (gSet 5)) (sSeq (sFor (fRng1 (aeCons (eMove 4) (aeNil))) (gSet 6) b__law_least_1) (sDrop (eAppend 3 (ofQ (qMk dMin1 (aCons (qVar 5) (aNil)))))))
def b__law_least : Bk := sSeq (sAsg (eMk mkL (aeCons (ofQ (qC (.int 0))) (aeNil))) (gSet 3)) (sSeq (sFor (fRng2 (aeCons (ofQ (qC (.int 1))) (aeCons (ofQ (qOp dAdd (qMk dLen (aCons (qVar 0) (aNil))) (qC (.int 1)))) (aeNil)))) (gSet 4) b__law_least_2) (sRet (eMove 3)))
def m__law_least : Mir := runF [false, false, false] 11 b__law_least
def b__law_take : Bk := sSeq (sIf (tQ (qOp dGt (qOp dIx (qVar 0) (qC (.int 0))) (qC (.int 0)))) (sSeq (sAsg (ofQ (qOp dMod (qMk dInt (aCons (qOp dIx (qVar 0) (qC (.int 0))) (aNil))) (qVar 1))) (gSet 4)) (sSeq (sSetI 0 (ofQ (qC (.int 0))) (ofQ (qOp dFdiv (qOp dIx (qVar 0) (qC (.int 0))) (qVar 1)))) (sRet (eMove 4)))) (sNext)) (sSeq (sSetI 0 (ofQ (qC (.int 2))) (ofQ (qOp dAdd (qOp dIx (qVar 0) (qC (.int 2))) (qC (.int 1))))) (sSeq (sAsg (ofQ (qOp dIx (qMk mkL (aCons (qC (.int 2147483647)) (aCons (qC (.int 2147483629)) (aCons (qC (.int 2147483587)) (aCons (qC (.int 2147483579)) (aCons (qC (.int 2147483563)) (aNil))))))) (qOp dMod (qMk dInt (aCons (qOp dIx (qVar 0) (qC (.int 2))) (aNil))) (qC (.int 5))))) (gSet 2)) (sSeq (sAsg (ofQ (qOp dMod (qMk dInt (aCons (qOp dPow (qMk dInt (aCons (qOp dAdd (qOp dAdd (qOp dIx (qVar 0) (qC (.int 1))) (qOp dMul (qOp dMul (qC (.int 95257)) (qOp dIx (qVar 0) (qC (.int 2)))) (qOp dIx (qVar 0) (qC (.int 2))))) (qC (.int 3163))) (aNil))) (qC (.int 3))) (aNil))) (qVar 2))) (gSet 3)) (sSeq (sAsg (ofQ (qOp dMod (qMk dInt (aCons (qOp dMul (qVar 3) (qOp dAdd (qOp dMod (qMk dInt (aCons (qVar 3) (aNil))) (qC (.int 13441))) (qOp dMul (qC (.int 419)) (qOp dIx (qVar 0) (qC (.int 2)))))) (aNil))) (qC (.int 2305843009213693907)))) (gSet 3)) (sRet (ofQ (qOp dMod (qMk dInt (aCons (qOp dFdiv (qVar 3) (qC (.int 229))) (aNil))) (qVar 1))))))))
def m__law_take : Mir := runF [true, false] 5 b__law_take
def b__law_of : Bk := sRet (eIxN 1 (eCallM m__law_take 0 (amQ 0 (aCons (qMk dLen (aCons (qVar 1) (aNil))) (aNil)))))
def m__law_of : Mir := runF [true, false] 2 b__law_of
def b_is_int : Bk := sRet (ofQ (qAnd (qUn (dIsi .int) (qVar 0)) (qAnd (qNot (qUn (dIsi .bool) (qVar 0))) (qChain dLe dLe (qVar 1) (qVar 0) (qVar 2)))))
def m_is_int : Mir := runF [false, false, false] 3 b_is_int
def b_are_ints : Bk := sRet (ofQ (qAnd (qUn (dIsi .tuple) (qVar 0)) (qMk dAll (aCons (qCompL [3] (fSeqQ (qVar 0)) (gSet 3) (cYesQ) (qCall m_is_int (aCons (qVar 3) (aCons (qVar 1) (aCons (qVar 2) (aNil)))))) (aNil)))))
def m_are_ints : Mir := runF [false, false, false] 4 b_are_ints
def b_look_at_lots_1 : Bk := sIf (tNot' (tQ (qCall m_is_int (aCons (qVar 3) (aCons (qC (.int 0)) (aCons (qC (.int 1000000)) (aNil))))))) (sNever) (sNext)
def b_look_at_lots : Bk := sSeq (sIf (tOr' (tNot' (tQ (qCall m_are_ints (aCons (qVar 0) (aCons (qC (.int 0)) (aCons (qC (.int 10000)) (aNil))))))) (tQ (qOp dGt (qMk dLen (aCons (qVar 0) (aNil))) (qC (.int 60))))) (sNever) (sNext)) (sFor (fSeq (qO (qMk mkT (aCons (qVar 1) (aCons (qVar 2) (aNil)))))) (gSet 3) b_look_at_lots_1)
def m_look_at_lots : Mir := runF [false, false, false] 4 b_look_at_lots
def b_told_best_1 : Bk := sSeq (sAsg (ofQ (qOp dIx (qOp dIx (qVar 4) (qVar 5)) (qC (.int 1)))) (gSet 7)) (sSeq (sSetI 8 (eMove 7) (ofQ (qMk dSumA (aCons (qSl (qVar 0) (oSome (qVar 7)) (oSome (qVar 5))) (aNil))))) (sAsg (eMove 7) (gSet 5)))
def b_told_best_2 : Bk := sSeq (sAsg (ofQ (qMk dSumA (aCons (qCompL [11] (fRng2Q (aCons (qVar 7) (aCons (qVar 5) (aNil)))) (gSet 11) (cYesQ) (qOp dMul (qOp dSub (qVar 11) (qVar 7)) (qOp dIx (qVar 0) (qVar 11)))) (aNil)))) (gSet 9)) (sSeq (sAsg (ofQ (qMk dSumA (aCons (qSl (qVar 0) (oSome (qVar 7)) (oSome (qVar 5))) (aNil)))) (gSet 10)) (sDrop (eAppend 6 (eMk mkT (aeCons (ofQ (qOp dAdd (qOp dAdd (qOp dIx (qOp dIx (qVar 4) (qVar 7)) (qC (.int 0))) (qOp dMul (qVar 2) (qVar 9))) (qIf (bQ (qOp dGt (qVar 10) (qC (.int 0)))) (qVar 1) (qC (.int 0))))) (aeCons (eMove 7) (aeNil)))))))
def b_told_best_3 : Bk := sSeq (sAsg (eMk mkL (aeNil)) (gSet 6)) (sSeq (sFor (fRng1 (aeCons (eMove 5) (aeNil))) (gSet 7) b_told_best_2) (sDrop (eAppend 4 (ofQ (qMk dMin1 (aCons (qVar 6) (aNil)))))))
def b_told_best : Bk := sSeq (sAsg (ofQ (qMk dLen (aCons (qVar 0) (aNil)))) (gSet 3)) (sSeq (sAsg (eMk mkL (aeCons (eMk mkT (aeCons (ofQ (qC (.int 0))) (aeCons (ofQ (qC .non)) (aeNil)))) (aeNil))) (gSet 4)) (sSeq (sFor (fRng2 (aeCons (ofQ (qC (.int 1))) (aeCons (ofQ (qOp dAdd (qVar 3) (qC (.int 1)))) (aeNil)))) (gSet 5) b_told_best_3) (sSeq (sPar [8, 5] (aeCons (ofQ (qCompL [11] (fSeqQ (qVar 0)) (gSet 11) (cYesQ) (qC (.int 0)))) (aeCons (eMove 3) (aeNil)))) (sSeq (sWhile (tQ (qOp dGt (qVar 5) (qC (.int 0)))) b_told_best_1) (sRet (ofQ (qMk dTuple (aCons (qVar 8) (aNil)))))))))
def m_told_best : Mir := runF [false, false, false] 12 b_told_best
def b_best_plan : Bk := sSeq (sDrop (ofQ (qCall m_look_at_lots (aCons (qVar 0) (aCons (qVar 1) (aCons (qVar 2) (aNil))))))) (sRet (ofQ (qCall m_told_best (aCons (qVar 0) (aCons (qVar 1) (aCons (qVar 2) (aNil)))))))
def m_best_plan : Mir := runF [false, false, false] 3 b_best_plan
def b_is_plan_1 : Bk := sSeq (sAug 2 (dII fun i j => some (.p (.int (i + j)))) (ofQ (qOp dSub (qVar 3) (qVar 4)))) (sIf (tQ (qOp dLt (qVar 2) (qC (.int 0)))) (sRet (ofQ (qC (.bl false)))) (sNext))
def b_is_plan : Bk := sSeq (sIf (tOr' (tNot' (tQ (qCall m_are_ints (aCons (qVar 1) (aCons (qC (.int 0)) (aCons (qOp dMul (qC (.int 10000)) (qC (.int 60))) (aNil))))))) (tQ (qOp dNe (qMk dLen (aCons (qVar 1) (aNil))) (qMk dLen (aCons (qVar 0) (aNil)))))) (sRet (ofQ (qC (.bl false)))) (sNext)) (sSeq (sAsg (ofQ (qC (.int 0))) (gSet 2)) (sSeq (sFor (fW z2D (aCons (qF (qVar 1)) (aCons (qF (qVar 0)) (aNil)))) (gTup' 2 (gCons' (gSet 3) (gCons' (gSet 4) (gNil')))) b_is_plan_1) (sRet (ofQ (qOp dEq (qVar 2) (qC (.int 0)))))))
def m_is_plan : Mir := runF [false, false] 5 b_is_plan
def b_told_cost_1 : Bk := sSeq (sAug 5 (dII fun i j => some (.p (.int (i + j)))) (ofQ (qOp dSub (qVar 6) (qVar 7)))) (sAug 4 (dII fun i j => some (.p (.int (i + j)))) (ofQ (qOp dAdd (qOp dMul (qVar 2) (qVar 5)) (qIf (bQ (qOp dGt (qVar 6) (qC (.int 0)))) (qVar 1) (qC (.int 0))))))
def b_told_cost : Bk := sSeq (sAsg (eMk mkT (aeCons (ofQ (qC (.int 0))) (aeCons (ofQ (qC (.int 0))) (aeNil)))) (gTup' 2 (gCons' (gSet 4) (gCons' (gSet 5) (gNil'))))) (sSeq (sFor (fW z2D (aCons (qF (qVar 3)) (aCons (qF (qVar 0)) (aNil)))) (gTup' 2 (gCons' (gSet 6) (gCons' (gSet 7) (gNil')))) b_told_cost_1) (sRet (eMove 4)))
def m_told_cost : Mir := runF [false, false, false, false] 8 b_told_cost
def b_cost_of : Bk := sSeq (sDrop (ofQ (qCall m_look_at_lots (aCons (qVar 0) (aCons (qVar 1) (aCons (qVar 2) (aNil))))))) (sSeq (sIf (tNot' (tQ (qCall m_is_plan (aCons (qVar 0) (aCons (qVar 3) (aNil)))))) (sNever) (sNext)) (sRet (ofQ (qCall m_told_cost (aCons (qVar 0) (aCons (qVar 1) (aCons (qVar 2) (aCons (qVar 3) (aNil)))))))))
def m_cost_of : Mir := runF [false, false, false, false] 4 b_cost_of
def b_least_cost : Bk := sSeq (sDrop (ofQ (qCall m_look_at_lots (aCons (qVar 0) (aCons (qVar 1) (aCons (qVar 2) (aNil))))))) (sRet (ofQ (qCall m_told_cost (aCons (qVar 0) (aCons (qVar 1) (aCons (qVar 2) (aCons (qCall m_told_best (aCons (qVar 0) (aCons (qVar 1) (aCons (qVar 2) (aNil))))) (aNil))))))))
def m_least_cost : Mir := runF [false, false, false] 3 b_least_cost
def b_shows_best_plan : Bk := sSeq (sDrop (ofQ (qCall m_look_at_lots (aCons (qVar 0) (aCons (qVar 1) (aCons (qVar 2) (aNil))))))) (sSeq (sIf (tNot' (tQ (qCall m_is_plan (aCons (qVar 0) (aCons (qVar 3) (aNil)))))) (sRet (ofQ (qC (.bl false)))) (sNext)) (sSeq (sAsg (ofQ (qCall m_told_cost (aCons (qVar 0) (aCons (qVar 1) (aCons (qVar 2) (aCons (qCall m_told_best (aCons (qVar 0) (aCons (qVar 1) (aCons (qVar 2) (aNil))))) (aNil))))))) (gSet 4)) (sRet (ofQ (qOp dEq (qCall m_told_cost (aCons (qVar 0) (aCons (qVar 1) (aCons (qVar 2) (aCons (qVar 3) (aNil)))))) (qVar 4))))))
def m_shows_best_plan : Mir := runF [false, false, false, false] 5 b_shows_best_plan
def b__law_is_plan_right_1 : Bk := sDrop (eAppend 3 (eOp dMul (eMk dInt (aeCons (eCallM m__law_take 0 (amQ 0 (aCons (qVar 2) (aNil)))) (aeNil))) (eMk dInt (aeCons (eOp dGt (eCallM m__law_take 0 (amQ 0 (aCons (qC (.int 4)) (aNil)))) (ofQ (qC (.int 0)))) (aeNil)))))
def b__law_is_plan_right : Bk := sSeq (sAsg (eMk mkL (aeNil)) (gSet 3)) (sSeq (sFor (fRng1 (aeCons (eCallM m__law_take 0 (amQ 0 (aCons (qOp dAdd (qVar 1) (qC (.int 1))) (aNil)))) (aeNil))) (gSet 4) b__law_is_plan_right_1) (sSeq (sAsg (ofQ (qMk dTuple (aCons (qVar 3) (aNil)))) (gSet 3)) (sSeq (sPar [7, 8] (aeCons (eMk dInt (aeCons (eCallM m__law_take 0 (amE (eCallML m__law_of 0 (amQ 0 (aCons (qMk mkL (aCons (qC (.int 50)) (aCons (qOp dPow (qC (.int 10)) (qC (.int 6))) (aNil)))) (aNil)))) (amQ 0 (aNil)))) (aeNil))) (aeCons (eMk dInt (aeCons (eCallM m__law_take 0 (amE (eCallML m__law_of 0 (amQ 0 (aCons (qMk mkL (aCons (qC (.int 4)) (aCons (qC (.int 900)) (aNil)))) (aNil)))) (amQ 0 (aNil)))) (aeNil))) (aeNil)))) (sSeq (sPar [9, 10] (aeCons (ofQ (qCall m__law_least (aCons (qVar 3) (aCons (qVar 7) (aCons (qVar 8) (aNil)))))) (aeCons (ofQ (qCall m_best_plan (aCons (qVar 3) (aCons (qVar 7) (aCons (qVar 8) (aNil)))))) (aeNil)))) (sSeq (sIf (tOr' (tQ (qOp dNe (qCall m_least_cost (aCons (qVar 3) (aCons (qVar 7) (aCons (qVar 8) (aNil))))) (qOp dIx (qVar 9) (qUn dNeg (qC (.int 1)))))) (tQ (qOp dNe (qCall m__law_cost (aCons (qVar 3) (aCons (qVar 7) (aCons (qVar 8) (aCons (qVar 10) (aNil)))))) (qOp dIx (qVar 9) (qUn dNeg (qC (.int 1))))))) (sRet (ofQ (qC (.bl false)))) (sNext)) (sSeq (sIf (tOr' (tQ (qOp dNe (qCall m_cost_of (aCons (qVar 3) (aCons (qVar 7) (aCons (qVar 8) (aCons (qVar 10) (aNil)))))) (qOp dIx (qVar 9) (qUn dNeg (qC (.int 1)))))) (tQ (qOp dIsnot (qCall m_shows_best_plan (aCons (qVar 3) (aCons (qVar 7) (aCons (qVar 8) (aCons (qVar 10) (aNil)))))) (qC (.bl true))))) (sRet (ofQ (qC (.bl false)))) (sNext)) (sSeq (sAsg (eMove 3) (gSet 5)) (sSeq (sIf (tQ (qOp dNe (qCall m_cost_of (aCons (qVar 3) (aCons (qVar 7) (aCons (qVar 8) (aCons (qVar 5) (aNil)))))) (qOp dMul (qVar 7) (qMk dLen (aCons (qCompL [12] (fSeqQ (qVar 3)) (gSet 12) (bQ (qOp dGt (qVar 12) (qC (.int 0)))) (qC (.int 1))) (aNil)))))) (sRet (ofQ (qC (.bl false)))) (sNext)) (sSeq (sIf (tQ (qOp dNe (qVar 3) (qMk mkT (aNil)))) (sSeq (sAsg (ofQ (qOp dAdd (qMk mkT (aCons (qMk dSumA (aCons (qVar 3) (aNil))) (aNil))) (qOp dMulT (qMk mkT (aCons (qC (.int 0)) (aNil))) (qOp dSub (qMk dLen (aCons (qVar 3) (aNil))) (qC (.int 1)))))) (gSet 11)) (sIf (tQ (qOp dNe (qCall m_cost_of (aCons (qVar 3) (aCons (qVar 7) (aCons (qVar 8) (aCons (qVar 11) (aNil)))))) (qCall m__law_cost (aCons (qVar 3) (aCons (qVar 7) (aCons (qVar 8) (aCons (qVar 11) (aNil)))))))) (sRet (ofQ (qC (.bl false)))) (sNext))) (sNext)) (sSeq (sAsg (eMk dInt (aeCons (eCallM m__law_take 0 (amQ 0 (aCons (qOp dAdd (qMk dLen (aCons (qVar 3) (aNil))) (qC (.int 1))) (aNil)))) (aeNil))) (gSet 6)) (sRet (ofQ (qAnd (qOp dEq (qCallL m_least_cost (aCons (qSl (qVar 3) (oNone) (oSome (qVar 6))) (aCons (qVar 7) (aCons (qVar 8) (aNil))))) (qOp dIx (qVar 9) (qVar 6))) (qOp dEq (qVar 9) (qMk dSorted (aCons (qVar 9) (aNil)))))))))))))))))
def m__law_is_plan_right : Mir := runF [true, false, false] 13 b__law_is_plan_right
def b__law_short_1 : Bk := sSeq (sIf (tQ (qOp dLt (qOp dAdd (qVar 3) (qVar 4)) (qVar 5))) (sRet (ofQ (qC (.bl true)))) (sNext)) (sAsg (ofQ (qMk dMin2 (aCons (qVar 2) (aCons (qOp dSub (qOp dAdd (qVar 3) (qVar 4)) (qVar 5)) (aNil))))) (gSet 3))
def b__law_short : Bk := sSeq (sAsg (ofQ (qC (.int 0))) (gSet 3)) (sSeq (sFor (fW z2D (aCons (qF (qVar 0)) (aCons (qF (qVar 1)) (aNil)))) (gTup' 2 (gCons' (gSet 4) (gCons' (gSet 5) (gNil')))) b__law_short_1) (sRet (ofQ (qC (.bl false)))))
def m__law_short : Mir := runF [false, false, false] 6 b__law_short
def b_look_at_storing : Bk := sSeq (sIf (tOr' (tNot' (tQ (qCall m_are_ints (aCons (qVar 0) (aCons (qC (.int 0)) (aCons (qC (.int 1000000)) (aNil))))))) (tQ (qOp dGt (qMk dLen (aCons (qVar 0) (aNil))) (qC (.int 100))))) (sNever) (sNext)) (sSeq (sIf (tOr' (tNot' (tQ (qCall m_are_ints (aCons (qVar 1) (aCons (qC (.int 0)) (aCons (qC (.int 1000000)) (aNil))))))) (tQ (qOp dNe (qMk dLen (aCons (qVar 1) (aNil))) (qMk dLen (aCons (qVar 0) (aNil)))))) (sNever) (sNext)) (sIf (tNot' (tQ (qCall m_is_int (aCons (qVar 2) (aCons (qC (.int 0)) (aCons (qC (.int 1000000)) (aNil))))))) (sNever) (sNext)))
def m_look_at_storing : Mir := runF [false, false, false] 3 b_look_at_storing
def b_told_plan_1 : Bk := sSeq (sAug 3 (dII fun i j => some (.p (.int (i + j)))) (eMove 5)) (sSeq (sAsg (ofQ (qMk dMin2 (aCons (qVar 4) (aCons (qVar 3) (aNil))))) (gSet 6)) (sSeq (sDrop (eAppend 2 (eMove 6))) (sAug 3 dSub (eMove 6))))
def b_told_plan : Bk := sSeq (sPar [2, 3] (aeCons (eMk mkL (aeNil)) (aeCons (ofQ (qC (.int 0))) (aeNil)))) (sSeq (sFor (fSeq (qO (qUn dRev (qMk lz2D (aCons (qVar 0) (aCons (qVar 1) (aNil))))))) (gTup' 2 (gCons' (gSet 4) (gCons' (gSet 5) (gNil')))) b_told_plan_1) (sRet (ofQ (qMk dTuple (aCons (qUn dRev (qVar 2)) (aNil))))))
def m_told_plan : Mir := runF [false, false] 7 b_told_plan
def b_told_short_1 : Bk := sSeq (sIf (tQ (qOp dLt (qOp dAdd (qVar 3) (qVar 6)) (qVar 7))) (sRet (eMk mkT (aeCons (eMove 4) (aeCons (eMove 5) (aeNil))))) (sNext)) (sSeq (sAsg (ofQ (qOp dSub (qOp dAdd (qVar 3) (qVar 6)) (qVar 7))) (gSet 3)) (sIf (tQ (qOp dGe (qVar 3) (qVar 2))) (sPar [3, 4] (aeCons (eMove 2) (aeCons (ofQ (qOp dAdd (qVar 5) (qC (.int 1)))) (aeNil)))) (sNext)))
def b_told_short : Bk := sSeq (sAsg (eMk mkT (aeCons (ofQ (qC (.int 0))) (aeCons (ofQ (qC (.int 0))) (aeNil)))) (gTup' 2 (gCons' (gSet 3) (gCons' (gSet 4) (gNil'))))) (sSeq (sFor (fW ezD (aCons (qF (qVar 0)) (aCons (qF (qVar 1)) (aNil)))) (gTup' 2 (gCons' (gSet 5) (gCons' (gTup' 2 (gCons' (gSet 6) (gCons' (gSet 7) (gNil')))) (gNil')))) b_told_short_1) (sRet (ofQ (qC .non))))
def m_told_short : Mir := runF [false, false, false] 8 b_told_short
def b_least_room_1 : Bk := sSeq (sAug 2 (dII fun i j => some (.p (.int (i + j)))) (ofQ (qOp dSub (qVar 4) (qVar 5)))) (sAsg (ofQ (qMk dMax2 (aCons (qVar 3) (aCons (qVar 2) (aNil))))) (gSet 3))
def b_least_room : Bk := sSeq (sDrop (ofQ (qCall m_look_at_storing (aCons (qVar 0) (aCons (qVar 1) (aCons (qC (.int 0)) (aNil))))))) (sSeq (sIf (tQ (qOp dIsnot (qCall m_told_short (aCons (qVar 0) (aCons (qVar 1) (aCons (qOp dMul (qC (.int 1000000)) (qC (.int 100))) (aNil))))) (qC .non))) (sRet (ofQ (qC .non))) (sNext)) (sSeq (sAsg (eMk mkT (aeCons (ofQ (qC (.int 0))) (aeCons (ofQ (qC (.int 0))) (aeNil)))) (gTup' 2 (gCons' (gSet 2) (gCons' (gSet 3) (gNil'))))) (sSeq (sFor (fW z2D (aCons (qO (qCall m_told_plan (aCons (qVar 0) (aCons (qVar 1) (aNil))))) (aCons (qF (qVar 1)) (aNil)))) (gTup' 2 (gCons' (gSet 4) (gCons' (gSet 5) (gNil')))) b_least_room_1) (sRet (eMove 3)))))
def m_least_room : Mir := runF [false, false] 6 b_least_room
def b__law_is_room_right : Bk := sSeq (sAsg (eMk dTuple (aeCons (eComp [6] (fRng1 (aeCons (eCallM m__law_take 0 (amQ 0 (aCons (qOp dAdd (qVar 1) (qC (.int 1))) (aNil)))) (aeNil))) (gSet 6) (cYes) (eMk dInt (aeCons (eCallM m__law_take 0 (amQ 0 (aCons (qVar 2) (aNil)))) (aeNil)))) (aeNil))) (gSet 3)) (sSeq (sAsg (eMk dTuple (aeCons (eComp [6] (fSeq (qF (qVar 3))) (gSet 6) (cYes) (eMk dInt (aeCons (eCallM m__law_take 0 (amQ 0 (aCons (qMk dMax2 (aCons (qC (.int 1)) (aCons (qOp dFdiv (qOp dMul (qC (.int 9)) (qVar 2)) (qC (.int 10))) (aNil)))) (aNil)))) (aeNil)))) (aeNil))) (gSet 4)) (sSeq (sAsg (ofQ (qCall m_least_room (aCons (qVar 3) (aCons (qVar 4) (aNil))))) (gSet 5)) (sSeq (sIf (tQ (qOp dIs (qVar 5) (qC .non))) (sRet (ofQ (qCall m__law_short (aCons (qVar 3) (aCons (qVar 4) (aCons (qOp dPow (qC (.int 10)) (qC (.int 9))) (aNil))))))) (sNext)) (sRet (ofQ (qAnd (qNot (qCall m__law_short (aCons (qVar 3) (aCons (qVar 4) (aCons (qVar 5) (aNil)))))) (qOr (qOp dEq (qVar 5) (qC (.int 0))) (qCall m__law_short (aCons (qVar 3) (aCons (qVar 4) (aCons (qOp dSub (qVar 5) (qC (.int 1))) (aNil))))))))))))
def m__law_is_room_right : Mir := runF [true, false, false] 7 b__law_is_room_right
def b_does_store_1 : Bk := sSeq (sAug 4 (dII fun i j => some (.p (.int (i + j)))) (ofQ (qOp dSub (qVar 7) (qVar 6)))) (sIf (tOr' (tQ (qOp dGt (qVar 7) (qVar 5))) (tNot' (tQ (qChain dLe dLe (qC (.int 0)) (qVar 4) (qVar 2))))) (sRet (ofQ (qC (.bl false)))) (sNext))
def b_does_store : Bk := sSeq (sIf (tOr' (tNot' (tQ (qCall m_are_ints (aCons (qVar 3) (aCons (qC (.int 0)) (aCons (qC (.int 1000000)) (aNil))))))) (tQ (qOp dNe (qMk dLen (aCons (qVar 3) (aNil))) (qMk dLen (aCons (qVar 0) (aNil)))))) (sRet (ofQ (qC (.bl false)))) (sNext)) (sSeq (sAsg (ofQ (qC (.int 0))) (gSet 4)) (sSeq (sFor (fW z3D (aCons (qF (qVar 0)) (aCons (qF (qVar 1)) (aCons (qF (qVar 3)) (aNil))))) (gTup' 3 (gCons' (gSet 5) (gCons' (gSet 6) (gCons' (gSet 7) (gNil'))))) b_does_store_1) (sRet (ofQ (qC (.bl true))))))
def m_does_store : Mir := runF [false, false, false, false] 8 b_does_store
def b_how_much : Bk := sSeq (sAsg (ofQ (qOp dAdd (qMk dSumA (aCons (qSl (qVar 0) (oSome (qVar 3)) (oSome (qOp dAdd (qVar 4) (qC (.int 1))))) (aNil))) (qIf (bQ (qOp dGt (qVar 3) (qC (.int 0)))) (qVar 2) (qC (.int 0))))) (gSet 5)) (sRet (eMk mkT (aeCons (ofQ (qMk dSumA (aCons (qSl (qVar 1) (oSome (qVar 3)) (oSome (qOp dAdd (qVar 4) (qC (.int 1))))) (aNil)))) (aeCons (eMove 5) (aeNil)))))
def m_how_much : Mir := runF [false, false, false, false, false] 6 b_how_much
def b_is_told : Bk := sRet (ofQ (qAnd (qUn (dIsi .tuple) (qVar 0)) (qAnd (qOp dIn (qMk dLen (aCons (qVar 0) (aNil))) (qVar 1)) (qUn (dIsi .str) (qOp dIx (qVar 0) (qC (.int 0)))))))
def m_is_told : Mir := runF [false, false] 2 b_is_told
def b_shows_store : Bk := sSeq (sDrop (ofQ (qCall m_look_at_storing (aCons (qVar 0) (aCons (qVar 1) (aCons (qVar 2) (aNil))))))) (sSeq (sIf (tNot' (tQ (qCall m_is_told (aCons (qVar 3) (aCons (qMk mkT (aCons (qC (.int 2)) (aCons (qC (.int 3)) (aNil)))) (aNil)))))) (sRet (ofQ (qC (.bl false)))) (sNext)) (sSeq (sIf (tQ (qOp dEq (qOp dIx (qVar 3) (qC (.int 0))) (qC (.str "plan")))) (sRet (ofQ (qAnd (qOp dEq (qMk dLen (aCons (qVar 3) (aNil))) (qC (.int 2))) (qCall m_does_store (aCons (qVar 0) (aCons (qVar 1) (aCons (qVar 2) (aCons (qOp dIx (qVar 3) (qC (.int 1))) (aNil))))))))) (sNext)) (sSeq (sIf (tOr' (tQ (qOp dNe (qOp dIx (qVar 3) (qC (.int 0))) (qC (.str "crowd")))) (tOr' (tQ (qOp dNe (qMk dLen (aCons (qVar 3) (aNil))) (qC (.int 3)))) (tNot' (tQ (qCallL m_are_ints (aCons (qSl (qVar 3) (oSome (qC (.int 1))) (oNone)) (aCons (qC (.int 0)) (aCons (qOp dSub (qMk dLen (aCons (qVar 0) (aNil))) (qC (.int 1))) (aNil))))))))) (sRet (ofQ (qC (.bl false)))) (sNext)) (sSeq (sIf (tQ (qOp dGt (qOp dIx (qVar 3) (qC (.int 1))) (qOp dIx (qVar 3) (qC (.int 2))))) (sRet (ofQ (qC (.bl false)))) (sNext)) (sSeq (sAsg (ofQ (qCall m_how_much (aCons (qVar 0) (aCons (qVar 1) (aCons (qVar 2) (aCons (qOp dIx (qVar 3) (qC (.int 1))) (aCons (qOp dIx (qVar 3) (qC (.int 2))) (aNil)))))))) (gTup' 2 (gCons' (gSet 4) (gCons' (gSet 5) (gNil'))))) (sRet (ofQ (qOp dGt (qVar 4) (qVar 5)))))))))
def m_shows_store : Mir := runF [false, false, false, false] 6 b_shows_store
def b_store : Bk := sSeq (sDrop (ofQ (qCall m_look_at_storing (aCons (qVar 0) (aCons (qVar 1) (aCons (qVar 2) (aNil))))))) (sSeq (sAsg (ofQ (qCall m_told_short (aCons (qVar 0) (aCons (qVar 1) (aCons (qVar 2) (aNil)))))) (gSet 3)) (sRet (ofQ (qIf (bQ (qOp dIsnot (qVar 3) (qC .non))) (qMk mkT (aCons (qC (.str "crowd")) (aStar (qVar 3) (aNil)))) (qMk mkT (aCons (qC (.str "plan")) (aCons (qCall m_told_plan (aCons (qVar 0) (aCons (qVar 1) (aNil)))) (aNil))))))))
def m_store : Mir := runF [false, false, false] 4 b_store
def b__law_is_store_right_1 : Bk := sSeq (sAsg (ofQ (qOp dSub (qOp dAdd (qVar 6) (qVar 12)) (qVar 11))) (gSet 6)) (sIf (tOr' (tNot' (tQ (qChain dLe dLe (qC (.int 0)) (qVar 12) (qVar 10)))) (tNot' (tQ (qChain dLe dLe (qC (.int 0)) (qVar 6) (qVar 5))))) (sRet (ofQ (qC (.bl false)))) (sNext))
def b__law_is_store_right : Bk := sSeq (sAsg (eMk dTuple (aeCons (eComp [15] (fRng1 (aeCons (eCallM m__law_take 0 (amQ 0 (aCons (qOp dAdd (qVar 1) (qC (.int 1))) (aNil)))) (aeNil))) (gSet 15) (cYes) (eMk dInt (aeCons (eCallM m__law_take 0 (amQ 0 (aCons (qVar 2) (aNil)))) (aeNil)))) (aeNil))) (gSet 3)) (sSeq (sAsg (eMk dTuple (aeCons (eComp [15] (fSeq (qF (qVar 3))) (gSet 15) (cYes) (eMk dInt (aeCons (eCallM m__law_take 0 (amQ 0 (aCons (qMk dMax2 (aCons (qC (.int 1)) (aCons (qOp dFdiv (qOp dMul (qC (.int 9)) (qVar 2)) (qC (.int 10))) (aNil)))) (aNil)))) (aeNil)))) (aeNil))) (gSet 4)) (sSeq (sAsg (eOp dMod (eMk dInt (aeCons (eCallM m__law_take 0 (amE (eCallML m__law_of 0 (amQ 0 (aCons (qMk mkL (aCons (qVar 2) (aCons (qOp dMul (qC (.int 3)) (qVar 2)) (aNil)))) (aNil)))) (amQ 0 (aNil)))) (aeNil))) (ofQ (qOp dAdd (qOp dPow (qC (.int 10)) (qC (.int 6))) (qC (.int 1))))) (gSet 5)) (sSeq (sPar [7, 8] (aeCons (ofQ (qCall m_store (aCons (qVar 3) (aCons (qVar 4) (aCons (qVar 5) (aNil)))))) (aeCons (ofQ (qCall m__law_short (aCons (qVar 3) (aCons (qVar 4) (aCons (qVar 5) (aNil)))))) (aeNil)))) (sSeq (sIf (tOr' (tQ (qOp dNe (qOp dEq (qOp dIx (qVar 7) (qC (.int 0))) (qC (.str "crowd"))) (qVar 8))) (tQ (qOp dIsnot (qCall m_shows_store (aCons (qVar 3) (aCons (qVar 4) (aCons (qVar 5) (aCons (qVar 7) (aNil)))))) (qC (.bl true))))) (sRet (ofQ (qC (.bl false)))) (sNext)) (sSeq (sIf (tQ (qVar 8)) (sSeq (sAsg (ofQ (qSl (qVar 7) (oSome (qC (.int 1))) (oNone))) (gTup' 2 (gCons' (gSet 13) (gCons' (gSet 14) (gNil'))))) (sSeq (sAsg (ofQ (qOp dSub (qMk dSumA (aCons (qSl (qVar 4) (oSome (qVar 13)) (oSome (qOp dAdd (qVar 14) (qC (.int 1))))) (aNil))) (qMk dSumA (aCons (qSl (qVar 3) (oSome (qVar 13)) (oSome (qOp dAdd (qVar 14) (qC (.int 1))))) (aNil))))) (gSet 9)) (sRet (ofQ (qOp dGt (qVar 9) (qIf (bQ (qOp dGt (qVar 13) (qC (.int 0)))) (qVar 5) (qC (.int 0)))))))) (sNext)) (sSeq (sAsg (ofQ (qC (.int 0))) (gSet 6)) (sSeq (sFor (fW z3D (aCons (qF (qVar 3)) (aCons (qF (qVar 4)) (aCons (qO (qOp dIx (qVar 7) (qC (.int 1)))) (aNil))))) (gTup' 3 (gCons' (gSet 10) (gCons' (gSet 11) (gCons' (gSet 12) (gNil'))))) b__law_is_store_right_1) (sRet (ofQ (qC (.bl true)))))))))))
def m__law_is_store_right : Mir := runF [true, false, false] 16 b__law_is_store_right
def b__law_right_1 : Bk := sIf (tOr' (tNot' (tE (eCallM m__law_is_store_right 0 (amQ 0 (aCons (qVar 1) (aCons (qVar 2) (aNil))))))) (tNot' (tE (eCallM m__law_is_room_right 0 (amQ 0 (aCons (qVar 1) (aCons (qVar 2) (aNil)))))))) (sRet (ofQ (qC (.bl false)))) (sNext)
def b__law_right_2 : Bk := sIf (tNot' (tE (eCallM m__law_is_plan_right 0 (amQ 0 (aCons (qVar 1) (aCons (qVar 2) (aNil))))))) (sRet (ofQ (qC (.bl false)))) (sNext)
def b__law_right : Bk := sSeq (sFor (fSeq (qO (qMk mkT (aCons (qMk mkT (aCons (qC (.int 8)) (aCons (qC (.int 9)) (aNil)))) (aCons (qMk mkT (aCons (qC (.int 30)) (aCons (qC (.int 300)) (aNil)))) (aCons (qMk mkT (aCons (qC (.int 60)) (aCons (qC (.int 10001)) (aNil)))) (aNil))))))) (gTup' 2 (gCons' (gSet 1) (gCons' (gSet 2) (gNil')))) b__law_right_2) (sSeq (sFor (fSeq (qO (qMk mkT (aCons (qMk mkT (aCons (qC (.int 10)) (aCons (qC (.int 9)) (aNil)))) (aCons (qMk mkT (aCons (qC (.int 40)) (aCons (qC (.int 900)) (aNil)))) (aCons (qMk mkT (aCons (qC (.int 100)) (aCons (qOp dAdd (qOp dPow (qC (.int 10)) (qC (.int 6))) (qC (.int 1))) (aNil)))) (aNil))))))) (gTup' 2 (gCons' (gSet 1) (gCons' (gSet 2) (gNil')))) b__law_right_1) (sRet (ofQ (qC (.bl true)))))
def m__law_right : Mir := runF [true] 3 b__law_right
def b_law : Bk := sRet (ofQ (qMk dAll (aCons (qCompL [1] (fSeqQ (qCall m__law_cells (aCons (qVar 0) (aCons (qC (.int 3)) (aNil))))) (gSet 1) (cYesQ) (qCall m__law_right (aCons (qCall m__law_pot (aCons (qVar 0) (aCons (qVar 1) (aNil)))) (aNil)))) (aNil))))
def m_law : Mir := runF [false] 2 b_law
section
variable {P : Program} {w : World} {K : PySem.W.Frag} {mg : Str → Option Value} {base : Heap} {f : Addr} {fd : FuncData}
theorem sc__law_cells : FnScope ["script", "most"] ["script", "most"] (defScope s__law_cells) := ⟨rfl, rfl, rfl, by decide +kernel, rfl, by decide +kernel, by decide +kernel⟩
theorem ok__law_cells (g : Fr mg) (F : FnP K "_law_cells" s__law_cells f fd) (hm : mg "_law_cells" = some (.ref f))  : Fn P w K mg base 1 "_law_cells" m__law_cells := by
  have hN := (sc__law_cells).nd
  exact fn_of_def (k := 0) F hm (F.bindsN fun _ _ _ _ _ _ us hl => match us, hl with | [_, _], _ => rfl) sc__law_cells rfl fun cdv A outer s H E hr => sss_one (ss_ret (se_q (sq_listRg1 (sq_callB sca_max2 (sa_cons (sq_int) (sa_cons (sq_callB sca_min2 (sa_cons (sq_var 1) (sa_cons (sq_callB sca_len (sa_cons (sq_var 0) (sa_nil)) g.f_len (by decide +kernel)) (sa_nil))) g.f_min (by decide +kernel)) (sa_nil))) g.f_max (by decide +kernel)) g.f_list g.f_range)))
theorem sc__law_pot : FnScope ["script", "place", "cell", "own", "small"] ["script", "place"] (defScope s__law_pot) := ⟨rfl, rfl, rfl, by decide +kernel, rfl, by decide +kernel, by decide +kernel⟩
theorem ok__law_pot (g : Fr mg) (F : FnP K "_law_pot" s__law_pot f fd) (hm : mg "_law_pot" = some (.ref f))  : Fn P w K mg base 1 "_law_pot" m__law_pot := by
  have hN := (sc__law_pot).nd
  exact fn_of_def (k := 0) F hm (F.bindsN fun _ _ _ _ _ _ us hl => match us, hl with | [_, _], _ => rfl) sc__law_pot rfl fun cdv A outer s H E hr => sss_cons (ss_set 2 hN (se_q (sq_if (sqt_cmp sop_lt (sq_var 1) (sq_callB sca_len (sa_cons (sq_var 0) (sa_nil)) g.f_len (by decide +kernel))) (sq_ix (sq_var 0) (sq_var 1)) (sq_op sop_add (sq_op sop_add (sq_op sop_mod (sq_callT sca_int (sa_cons (sq_callB sca_sumA (sa_cons (sq_sl (sq_var 0) (spo_none) (spo_some (sq_int))) (sa_nil)) g.f_sum (by decide +kernel)) (sa_nil)) g.f_int (by decide +kernel)) (sq_int)) (sq_op sop_mul (sq_int) (sq_var 1))) (sq_int))))) (sss_cons (ss_set 3 hN (se_q (sq_op sop_mul (sq_op sop_mod (sq_callT sca_int (sa_cons (sq_callB sca_abs (sa_cons (sq_var 2) (sa_nil)) g.f_abs (by decide +kernel)) (sa_nil)) g.f_int (by decide +kernel)) (sq_op sop_pow (sq_op sop_pow (sq_int) (sq_int)) (sq_int))) (sq_callT sca_int (sa_cons (sq_cmp sop_ge (sq_callB sca_abs (sa_cons (sq_var 2) (sa_nil)) g.f_abs (by decide +kernel)) (sq_op sop_pow (sq_int) (sq_int))) (sa_nil)) g.f_int (by decide +kernel))))) (sss_cons (ss_set 4 hN (se_q (sq_op sop_mod (sq_callT sca_int (sa_cons (sq_var 2) (sa_nil)) g.f_int (by decide +kernel)) (sq_int)))) (sss_one (ss_ret (se_lst (sae_cons (se_move 3) (sae_cons (se_q (sq_op sop_mod (sq_callT sca_int (sa_cons (sq_op sop_add (sq_op sop_add (sq_op sop_mul (sq_var 4) (sq_int)) (sq_op sop_mul (sq_op sop_mul (sq_int) (sq_var 1)) (sq_var 1))) (sq_int)) (sa_nil)) g.f_int (by decide +kernel)) (sq_int))) (sae_cons (se_q (sq_int)) (sae_nil)))))))))
theorem sc__law_cost : FnScope ["asked", "filling", "keeping", "plan", "there", "cost", "wanted", "filled"] ["asked", "filling", "keeping", "plan"] (defScope s__law_cost) := ⟨rfl, rfl, rfl, by decide +kernel, rfl, by decide +kernel, by decide +kernel⟩
theorem ok__law_cost (g : Fr mg) (F : FnP K "_law_cost" s__law_cost f fd) (hm : mg "_law_cost" = some (.ref f))  : Fn P w K mg base 1 "_law_cost" m__law_cost := by
  have hN := (sc__law_cost).nd
  exact fn_of_def (k := 0) F hm (F.bindsN fun _ _ _ _ _ _ us hl => match us, hl with | [_, _, _, _], _ => rfl) sc__law_cost rfl fun cdv A outer s H E hr => sss_cons (ss_asg (se_tup (sae_cons (se_q (sq_int)) (sae_cons (se_q (sq_int)) (sae_nil)))) (stg_tup (stgs_cons (stg_name 4 hN) (stgs_cons (stg_name 5 hN) (stgs_nil))))) (sss_cons (ss_for (si_z2 (sar_cons (sr_f (sq_var 0)) (sar_cons (sr_f (sq_var 3)) (sar_nil))) g.f_zip) (stg_tup (stgs_cons (stg_name 6 hN) (stgs_cons (stg_name 7 hN) (stgs_nil)))) (sss_cons (ss_par2 4 5 hN (sae_cons (se_q (sq_op sop_sub (sq_op sop_add (sq_var 4) (sq_var 7)) (sq_var 6))) (sae_cons (se_q (sq_op sop_add (sq_var 5) (sq_if (sqt_cmp sop_gt (sq_var 7) (sq_int)) (sq_var 1) (sq_int)))) (sae_nil)))) (sss_cons (ss_if (st_cmp sop_lt (sq_var 4) (sq_int)) (sss_one (ss_ret (se_q (sq_non)))) (sss_nil)) (sss_one (ss_set 5 hN (se_q (sq_op sop_add (sq_var 5) (sq_op sop_mul (sq_var 2) (sq_var 4))))))))) (sss_one (ss_ret (se_q (sq_if (sqt_cmp (sop_eq hr.units) (sq_var 4) (sq_int)) (sq_var 5) (sq_non))))))
theorem sc__law_least : FnScope ["asked", "filling", "keeping", "best", "end", "rows", "begin", "total", "kept", "at", "one"] ["asked", "filling", "keeping"] (defScope s__law_least) := ⟨rfl, rfl, rfl, by decide +kernel, rfl, by decide +kernel, by decide +kernel⟩
theorem ok__law_least (g : Fr mg) (F : FnP K "_law_least" s__law_least f fd) (hm : mg "_law_least" = some (.ref f))  : Fn P w K mg base 1 "_law_least" m__law_least := by
  have hN := (sc__law_least).nd
  exact fn_of_def (k := 0) F hm (F.bindsN fun _ _ _ _ _ _ us hl => match us, hl with | [_, _, _], _ => rfl) sc__law_least rfl fun cdv A outer s H E hr => sss_cons (ss_set 3 hN (se_lst (sae_cons (se_q (sq_int)) (sae_nil)))) (sss_cons (ss_for (si_rng2 (sae_cons (se_q (sq_int)) (sae_cons (se_q (sq_op sop_add (sq_callB sca_len (sa_cons (sq_var 0) (sa_nil)) g.f_len (by decide +kernel)) (sq_int))) (sae_nil))) g.f_range) (stg_name 4 hN) (sss_cons (ss_set 5 hN (se_lst (sae_nil))) (sss_cons (ss_for (si_rng1 (sae_cons (se_move 4) (sae_nil)) g.f_range) (stg_name 6 hN) (sss_cons (ss_set 7 hN (se_q (sq_callB sca_sumA (sa_cons (sq_sl (sq_var 0) (spo_some (sq_var 6)) (spo_some (sq_var 4))) (sa_nil)) g.f_sum (by decide +kernel)))) (sss_cons (ss_set 8 hN (se_q (sq_callB sca_sumA (sa_cons (sq_comp [("at", 9), ("one", 10)] hN (siq_e2 (sa_cons (sq_sl (sq_var 0) (spo_some (sq_var 6)) (spo_some (sq_var 4))) (sa_cons (sq_var 6) (sa_nil))) g.f_enumerate) (by kernel_rfl) (fun s H C cl fp => stg_tup (stgs_cons (stg_name 9 hN) (stgs_cons (stg_name 10 hN) (stgs_nil)))) (fun s H C cl fp => sqts_nil) (fun s H C cl fp => sq_op sop_mul (sq_var 10) (sq_op sop_sub (sq_var 9) (sq_var 6)))) (sa_nil)) g.f_sum (by decide +kernel)))) (sss_one (ss_expr (se_append 5 (se_q (sq_op sop_add (sq_op sop_add (sq_ix (sq_var 3) (sq_var 6)) (sq_if (sqt_cmp sop_gt (sq_var 7) (sq_int)) (sq_var 1) (sq_int))) (sq_op sop_mul (sq_var 2) (sq_var 8)))))))))) (sss_one (ss_expr (se_append 3 (se_q (sq_callB (sca_min1 hr.units) (sa_cons (sq_var 5) (sa_nil)) g.f_min (by decide +kernel))))))))) (sss_one (ss_ret (se_move 3))))
theorem sc__law_take : FnScope ["pot", "upto", "prime", "blend", "digit"] ["pot", "upto"] (defScope s__law_take) := ⟨rfl, rfl, rfl, by decide +kernel, rfl, by decide +kernel, by decide +kernel⟩
theorem ok__law_take (g : Fr mg) (F : FnP K "_law_take" s__law_take f fd) (hm : mg "_law_take" = some (.ref f))  : Fn P w K mg base 1 "_law_take" m__law_take := by
  have hN := (sc__law_take).nd
  exact fn_of_def (k := 0) F hm (F.bindsN fun _ _ _ _ _ _ us hl => match us, hl with | [_, _], _ => rfl) sc__law_take rfl fun cdv A outer s H E hr => sss_cons (ss_if (st_cmp sop_gt (sq_ix (sq_var 0) (sq_int)) (sq_int)) (sss_cons (ss_set 4 hN (se_q (sq_op sop_mod (sq_callT sca_int (sa_cons (sq_ix (sq_var 0) (sq_int)) (sa_nil)) g.f_int (by decide +kernel)) (sq_var 1)))) (sss_cons (ss_setI 0 (se_q (sq_op sop_fdiv (sq_ix (sq_var 0) (sq_int)) (sq_var 1))) (se_q (sq_int))) (sss_one (ss_ret (se_move 4))))) (sss_nil)) (sss_cons (ss_setI 0 (se_q (sq_op sop_add (sq_ix (sq_var 0) (sq_int)) (sq_int))) (se_q (sq_int))) (sss_cons (ss_set 2 hN (se_q (sq_ix (sq_lst (sa_cons (sq_int) (sa_cons (sq_int) (sa_cons (sq_int) (sa_cons (sq_int) (sa_cons (sq_int) (sa_nil))))))) (sq_op sop_mod (sq_callT sca_int (sa_cons (sq_ix (sq_var 0) (sq_int)) (sa_nil)) g.f_int (by decide +kernel)) (sq_int))))) (sss_cons (ss_set 3 hN (se_q (sq_op sop_mod (sq_callT sca_int (sa_cons (sq_op sop_pow (sq_callT sca_int (sa_cons (sq_op sop_add (sq_op sop_add (sq_ix (sq_var 0) (sq_int)) (sq_op sop_mul (sq_op sop_mul (sq_int) (sq_ix (sq_var 0) (sq_int))) (sq_ix (sq_var 0) (sq_int)))) (sq_int)) (sa_nil)) g.f_int (by decide +kernel)) (sq_int)) (sa_nil)) g.f_int (by decide +kernel)) (sq_var 2)))) (sss_cons (ss_set 3 hN (se_q (sq_op sop_mod (sq_callT sca_int (sa_cons (sq_op sop_mul (sq_var 3) (sq_op sop_add (sq_op sop_mod (sq_callT sca_int (sa_cons (sq_var 3) (sa_nil)) g.f_int (by decide +kernel)) (sq_int)) (sq_op sop_mul (sq_int) (sq_ix (sq_var 0) (sq_int))))) (sa_nil)) g.f_int (by decide +kernel)) (sq_int)))) (sss_one (ss_ret (se_q (sq_op sop_mod (sq_callT sca_int (sa_cons (sq_op sop_fdiv (sq_var 3) (sq_int)) (sa_nil)) g.f_int (by decide +kernel)) (sq_var 1)))))))))
theorem sc__law_of : FnScope ["pot", "some"] ["pot", "some"] (defScope s__law_of) := ⟨rfl, rfl, rfl, by decide +kernel, rfl, by decide +kernel, by decide +kernel⟩
theorem ok__law_of (g : Fr mg) (F : FnP K "_law_of" s__law_of f fd) (hm : mg "_law_of" = some (.ref f)) (C__law_take : Fn P w K mg base 1 "_law_take" m__law_take) : Fn P w K mg base 2 "_law_of" m__law_of := by
  have hN := (sc__law_of).nd
  exact fn_of_def (k := 1) F hm (F.bindsN fun _ _ _ _ _ _ us hl => match us, hl with | [_, _], _ => rfl) sc__law_of rfl fun cdv A outer s H E hr => sss_one (ss_ret (se_ixN 1 (se_callM C__law_take hr (by decide) (sam_q (sa_cons (sq_callB sca_len (sa_cons (sq_var 1) (sa_nil)) g.f_len (by decide +kernel)) (sa_nil))))))
theorem sc_is_int : FnScope ["value", "low", "high"] ["value", "low", "high"] (defScope s_is_int) := ⟨rfl, rfl, rfl, by decide +kernel, rfl, by decide +kernel, by decide +kernel⟩
theorem ok_is_int (g : Fr mg) (F : FnP K "is_int" s_is_int f fd) (hm : mg "is_int" = some (.ref f))  : Fn P w K mg base 1 "is_int" m_is_int := by
  have hN := (sc_is_int).nd
  exact fn_of_def (k := 0) F hm (F.bindsN fun _ _ _ _ _ _ us hl => match us, hl with | [_, _, _], _ => rfl) sc_is_int rfl fun cdv A outer s H E hr => sss_one (ss_ret (se_q (sq_and (sq_isi .int (sq_var 0) g.f_isinstance g.f_int (by decide +kernel)) (sq_and (sq_not (sq_isi .bool (sq_var 0) g.f_isinstance g.f_bool (by decide +kernel))) (sq_one (sq_chain sop_le sop_le (sq_var 1) (sq_var 0) (sq_var 2)))))))
theorem sc_are_ints : FnScope ["value", "low", "high", "one"] ["value", "low", "high"] (defScope s_are_ints) := ⟨rfl, rfl, rfl, by decide +kernel, rfl, by decide +kernel, by decide +kernel⟩
theorem ok_are_ints (g : Fr mg) (F : FnP K "are_ints" s_are_ints f fd) (hm : mg "are_ints" = some (.ref f)) (C_is_int : Fn P w K mg base 1 "is_int" m_is_int) : Fn P w K mg base 2 "are_ints" m_are_ints := by
  have hN := (sc_are_ints).nd
  exact fn_of_def (k := 1) F hm (F.bindsN fun _ _ _ _ _ _ us hl => match us, hl with | [_, _, _], _ => rfl) sc_are_ints rfl fun cdv A outer s H E hr => sss_one (ss_ret (se_q (sq_and (sq_isi .tuple (sq_var 0) g.f_isinstance g.f_tuple (by decide +kernel)) (sq_one (sq_callB sca_all (sa_cons (sq_comp [("one", 3)] hN (siq_seq (sq_var 0)) (by kernel_rfl) (fun s H C cl fp => stg_name 3 hN) (fun s H C cl fp => sqts_nil) (fun s H C cl fp => sq_call C_is_int hr (by decide) (sa_cons (sq_var 3) (sa_cons (sq_var 1) (sa_cons (sq_var 2) (sa_nil)))))) (sa_nil)) g.f_all (by decide +kernel))))))
theorem sc_look_at_lots : FnScope ["asked", "filling", "keeping", "cost"] ["asked", "filling", "keeping"] (defScope s_look_at_lots) := ⟨rfl, rfl, rfl, by decide +kernel, rfl, by decide +kernel, by decide +kernel⟩
theorem ok_look_at_lots (g : Fr mg) (F : FnP K "look_at_lots" s_look_at_lots f fd) (hm : mg "look_at_lots" = some (.ref f)) (C_are_ints : Fn P w K mg base 2 "are_ints" m_are_ints) (C_is_int : Fn P w K mg base 1 "is_int" m_is_int) : Fn P w K mg base 3 "look_at_lots" m_look_at_lots := by
  have hN := (sc_look_at_lots).nd
  exact fn_of_def (k := 2) F hm (F.bindsN fun _ _ _ _ _ _ us hl => match us, hl with | [_, _, _], _ => rfl) sc_look_at_lots rfl fun cdv A outer s H E hr => sss_cons (ss_if (st_w (sw_or (st_not (st_q (sq_call C_are_ints hr (by decide) (sa_cons (sq_var 0) (sa_cons (sq_int) (sa_cons (sq_gi g.c_MOST_ASKED) (sa_nil))))))) (sw_or1 (st_cmp sop_gt (sq_callB sca_len (sa_cons (sq_var 0) (sa_nil)) g.f_len (by decide +kernel)) (sq_gi g.c_MOST_SEASONS_lots))))) (sss_one (ss_never)) (sss_nil)) (sss_one (ss_for (si_seq (sr_o (sq_tup (sa_cons (sq_var 1) (sa_cons (sq_var 2) (sa_nil)))))) (stg_name 3 hN) (sss_one (ss_if (st_not (st_q (sq_call C_is_int hr (by decide) (sa_cons (sq_var 3) (sa_cons (sq_int) (sa_cons (sq_gi g.c_MOST_COST) (sa_nil))))))) (sss_one (ss_never)) (sss_nil)))))
theorem sc_told_best : FnScope ["asked", "filling", "keeping", "many", "best", "end", "some", "begin", "plan", "kept", "wanted", "season"] ["asked", "filling", "keeping"] (defScope s_told_best) := ⟨rfl, rfl, rfl, by decide +kernel, rfl, by decide +kernel, by decide +kernel⟩
theorem ok_told_best (g : Fr mg) (F : FnP K "told_best" s_told_best f fd) (hm : mg "told_best" = some (.ref f))  : Fn P w K mg base 1 "told_best" m_told_best := by
  have hN := (sc_told_best).nd
  exact fn_of_def (k := 0) F hm (F.bindsN fun _ _ _ _ _ _ us hl => match us, hl with | [_, _, _], _ => rfl) sc_told_best rfl fun cdv A outer s H E hr => sss_cons (ss_set 3 hN (se_q (sq_callB sca_len (sa_cons (sq_var 0) (sa_nil)) g.f_len (by decide +kernel)))) (sss_cons (ss_set 4 hN (se_lst (sae_cons (se_tup (sae_cons (se_q (sq_int)) (sae_cons (se_q (sq_non)) (sae_nil)))) (sae_nil)))) (sss_cons (ss_for (si_rng2 (sae_cons (se_q (sq_int)) (sae_cons (se_q (sq_op sop_add (sq_var 3) (sq_int))) (sae_nil))) g.f_range) (stg_name 5 hN) (sss_cons (ss_set 6 hN (se_lst (sae_nil))) (sss_cons (ss_for (si_rng1 (sae_cons (se_move 5) (sae_nil)) g.f_range) (stg_name 7 hN) (sss_cons (ss_set 9 hN (se_q (sq_callB sca_sumA (sa_cons (sq_comp [("season", 11)] hN (siq_rng2 (sa_cons (sq_var 7) (sa_cons (sq_var 5) (sa_nil))) g.f_range) (by kernel_rfl) (fun s H C cl fp => stg_name 11 hN) (fun s H C cl fp => sqts_nil) (fun s H C cl fp => sq_op sop_mul (sq_op sop_sub (sq_var 11) (sq_var 7)) (sq_ix (sq_var 0) (sq_var 11)))) (sa_nil)) g.f_sum (by decide +kernel)))) (sss_cons (ss_set 10 hN (se_q (sq_callB sca_sumA (sa_cons (sq_sl (sq_var 0) (spo_some (sq_var 7)) (spo_some (sq_var 5))) (sa_nil)) g.f_sum (by decide +kernel)))) (sss_one (ss_expr (se_append 6 (se_tup (sae_cons (se_q (sq_op sop_add (sq_op sop_add (sq_ix (sq_ix (sq_var 4) (sq_var 7)) (sq_int)) (sq_op sop_mul (sq_var 2) (sq_var 9))) (sq_if (sqt_cmp sop_gt (sq_var 10) (sq_int)) (sq_var 1) (sq_int)))) (sae_cons (se_move 7) (sae_nil)))))))))) (sss_one (ss_expr (se_append 4 (se_q (sq_callB (sca_min1 hr.units) (sa_cons (sq_var 6) (sa_nil)) g.f_min (by decide +kernel))))))))) (sss_cons (ss_par2 8 5 hN (sae_cons (se_q (sq_comp [("season", 11)] hN (siq_seq (sq_var 0)) (by kernel_rfl) (fun s H C cl fp => stg_name 11 hN) (fun s H C cl fp => sqts_nil) (fun s H C cl fp => sq_int))) (sae_cons (se_move 3) (sae_nil)))) (sss_cons (ss_while (st_cmp sop_gt (sq_var 5) (sq_int)) (sss_cons (ss_set 7 hN (se_q (sq_ix (sq_ix (sq_var 4) (sq_var 5)) (sq_int)))) (sss_cons (ss_setI 8 (se_q (sq_callB sca_sumA (sa_cons (sq_sl (sq_var 0) (spo_some (sq_var 7)) (spo_some (sq_var 5))) (sa_nil)) g.f_sum (by decide +kernel))) (se_move 7)) (sss_one (ss_set 5 hN (se_move 7)))))) (sss_one (ss_ret (se_q (sq_callT sca_tuple (sa_cons (sq_var 8) (sa_nil)) g.f_tuple (by decide +kernel)))))))))
theorem sc_best_plan : FnScope ["asked", "filling", "keeping"] ["asked", "filling", "keeping"] (defScope s_best_plan) := ⟨rfl, rfl, rfl, by decide +kernel, rfl, by decide +kernel, by decide +kernel⟩
theorem ok_best_plan (g : Fr mg) (F : FnP K "best_plan" s_best_plan f fd) (hm : mg "best_plan" = some (.ref f)) (C_look_at_lots : Fn P w K mg base 3 "look_at_lots" m_look_at_lots) (C_told_best : Fn P w K mg base 1 "told_best" m_told_best) : Fn P w K mg base 4 "best_plan" m_best_plan := by
  have hN := (sc_best_plan).nd
  exact fn_of_def (k := 3) F hm (F.bindsN fun _ _ _ _ _ _ us hl => match us, hl with | [_, _, _], _ => rfl) sc_best_plan rfl fun cdv A outer s H E hr => sss_cons (ss_expr (se_q (sq_call C_look_at_lots hr (by decide) (sa_cons (sq_var 0) (sa_cons (sq_var 1) (sa_cons (sq_var 2) (sa_nil))))))) (sss_one (ss_ret (se_q (sq_call C_told_best hr (by decide) (sa_cons (sq_var 0) (sa_cons (sq_var 1) (sa_cons (sq_var 2) (sa_nil))))))))
theorem sc_is_plan : FnScope ["asked", "value", "left", "filled", "wanted"] ["asked", "value"] (defScope s_is_plan) := ⟨rfl, rfl, rfl, by decide +kernel, rfl, by decide +kernel, by decide +kernel⟩
theorem ok_is_plan (g : Fr mg) (F : FnP K "is_plan" s_is_plan f fd) (hm : mg "is_plan" = some (.ref f)) (C_are_ints : Fn P w K mg base 2 "are_ints" m_are_ints) : Fn P w K mg base 3 "is_plan" m_is_plan := by
  have hN := (sc_is_plan).nd
  exact fn_of_def (k := 2) F hm (F.bindsN fun _ _ _ _ _ _ us hl => match us, hl with | [_, _], _ => rfl) sc_is_plan rfl fun cdv A outer s H E hr => sss_cons (ss_if (st_w (sw_or (st_not (st_q (sq_call C_are_ints hr (by decide) (sa_cons (sq_var 1) (sa_cons (sq_int) (sa_cons (sq_op sop_mul (sq_gi g.c_MOST_ASKED) (sq_gi g.c_MOST_SEASONS_lots)) (sa_nil))))))) (sw_or1 (st_cmp (sop_ne hr.units) (sq_callB sca_len (sa_cons (sq_var 1) (sa_nil)) g.f_len (by decide +kernel)) (sq_callB sca_len (sa_cons (sq_var 0) (sa_nil)) g.f_len (by decide +kernel)))))) (sss_one (ss_ret (se_q (sq_bl)))) (sss_nil)) (sss_cons (ss_set 2 hN (se_q (sq_int))) (sss_cons (ss_for (si_z2 (sar_cons (sr_f (sq_var 1)) (sar_cons (sr_f (sq_var 0)) (sar_nil))) g.f_zip) (stg_tup (stgs_cons (stg_name 3 hN) (stgs_cons (stg_name 4 hN) (stgs_nil)))) (sss_cons (ss_aug 2 hN sip_add (se_q (sq_op sop_sub (sq_var 3) (sq_var 4)))) (sss_one (ss_if (st_cmp sop_lt (sq_var 2) (sq_int)) (sss_one (ss_ret (se_q (sq_bl)))) (sss_nil))))) (sss_one (ss_ret (se_q (sq_cmp (sop_eq hr.units) (sq_var 2) (sq_int)))))))
theorem sc_told_cost : FnScope ["asked", "filling", "keeping", "plan", "total", "left", "filled", "wanted"] ["asked", "filling", "keeping", "plan"] (defScope s_told_cost) := ⟨rfl, rfl, rfl, by decide +kernel, rfl, by decide +kernel, by decide +kernel⟩
theorem ok_told_cost (g : Fr mg) (F : FnP K "told_cost" s_told_cost f fd) (hm : mg "told_cost" = some (.ref f))  : Fn P w K mg base 1 "told_cost" m_told_cost := by
  have hN := (sc_told_cost).nd
  exact fn_of_def (k := 0) F hm (F.bindsN fun _ _ _ _ _ _ us hl => match us, hl with | [_, _, _, _], _ => rfl) sc_told_cost rfl fun cdv A outer s H E hr => sss_cons (ss_asg (se_tup (sae_cons (se_q (sq_int)) (sae_cons (se_q (sq_int)) (sae_nil)))) (stg_tup (stgs_cons (stg_name 4 hN) (stgs_cons (stg_name 5 hN) (stgs_nil))))) (sss_cons (ss_for (si_z2 (sar_cons (sr_f (sq_var 3)) (sar_cons (sr_f (sq_var 0)) (sar_nil))) g.f_zip) (stg_tup (stgs_cons (stg_name 6 hN) (stgs_cons (stg_name 7 hN) (stgs_nil)))) (sss_cons (ss_aug 5 hN sip_add (se_q (sq_op sop_sub (sq_var 6) (sq_var 7)))) (sss_one (ss_aug 4 hN sip_add (se_q (sq_op sop_add (sq_op sop_mul (sq_var 2) (sq_var 5)) (sq_if (sqt_cmp sop_gt (sq_var 6) (sq_int)) (sq_var 1) (sq_int)))))))) (sss_one (ss_ret (se_move 4))))
theorem sc_cost_of : FnScope ["asked", "filling", "keeping", "plan"] ["asked", "filling", "keeping", "plan"] (defScope s_cost_of) := ⟨rfl, rfl, rfl, by decide +kernel, rfl, by decide +kernel, by decide +kernel⟩
theorem ok_cost_of (g : Fr mg) (F : FnP K "cost_of" s_cost_of f fd) (hm : mg "cost_of" = some (.ref f)) (C_is_plan : Fn P w K mg base 3 "is_plan" m_is_plan) (C_look_at_lots : Fn P w K mg base 3 "look_at_lots" m_look_at_lots) (C_told_cost : Fn P w K mg base 1 "told_cost" m_told_cost) : Fn P w K mg base 4 "cost_of" m_cost_of := by
  have hN := (sc_cost_of).nd
  exact fn_of_def (k := 3) F hm (F.bindsN fun _ _ _ _ _ _ us hl => match us, hl with | [_, _, _, _], _ => rfl) sc_cost_of rfl fun cdv A outer s H E hr => sss_cons (ss_expr (se_q (sq_call C_look_at_lots hr (by decide) (sa_cons (sq_var 0) (sa_cons (sq_var 1) (sa_cons (sq_var 2) (sa_nil))))))) (sss_cons (ss_if (st_not (st_q (sq_call C_is_plan hr (by decide) (sa_cons (sq_var 0) (sa_cons (sq_var 3) (sa_nil)))))) (sss_one (ss_never)) (sss_nil)) (sss_one (ss_ret (se_q (sq_call C_told_cost hr (by decide) (sa_cons (sq_var 0) (sa_cons (sq_var 1) (sa_cons (sq_var 2) (sa_cons (sq_var 3) (sa_nil))))))))))
theorem sc_least_cost : FnScope ["asked", "filling", "keeping"] ["asked", "filling", "keeping"] (defScope s_least_cost) := ⟨rfl, rfl, rfl, by decide +kernel, rfl, by decide +kernel, by decide +kernel⟩
theorem ok_least_cost (g : Fr mg) (F : FnP K "least_cost" s_least_cost f fd) (hm : mg "least_cost" = some (.ref f)) (C_look_at_lots : Fn P w K mg base 3 "look_at_lots" m_look_at_lots) (C_told_best : Fn P w K mg base 1 "told_best" m_told_best) (C_told_cost : Fn P w K mg base 1 "told_cost" m_told_cost) : Fn P w K mg base 4 "least_cost" m_least_cost := by
  have hN := (sc_least_cost).nd
  exact fn_of_def (k := 3) F hm (F.bindsN fun _ _ _ _ _ _ us hl => match us, hl with | [_, _, _], _ => rfl) sc_least_cost rfl fun cdv A outer s H E hr => sss_cons (ss_expr (se_q (sq_call C_look_at_lots hr (by decide) (sa_cons (sq_var 0) (sa_cons (sq_var 1) (sa_cons (sq_var 2) (sa_nil))))))) (sss_one (ss_ret (se_q (sq_call C_told_cost hr (by decide) (sa_cons (sq_var 0) (sa_cons (sq_var 1) (sa_cons (sq_var 2) (sa_cons (sq_call C_told_best hr (by decide) (sa_cons (sq_var 0) (sa_cons (sq_var 1) (sa_cons (sq_var 2) (sa_nil))))) (sa_nil)))))))))
theorem sc_shows_best_plan : FnScope ["asked", "filling", "keeping", "value", "due"] ["asked", "filling", "keeping", "value"] (defScope s_shows_best_plan) := ⟨rfl, rfl, rfl, by decide +kernel, rfl, by decide +kernel, by decide +kernel⟩
theorem ok_shows_best_plan (g : Fr mg) (F : FnP K "shows_best_plan" s_shows_best_plan f fd) (hm : mg "shows_best_plan" = some (.ref f)) (C_is_plan : Fn P w K mg base 3 "is_plan" m_is_plan) (C_look_at_lots : Fn P w K mg base 3 "look_at_lots" m_look_at_lots) (C_told_best : Fn P w K mg base 1 "told_best" m_told_best) (C_told_cost : Fn P w K mg base 1 "told_cost" m_told_cost) : Fn P w K mg base 4 "shows_best_plan" m_shows_best_plan := by
  have hN := (sc_shows_best_plan).nd
  exact fn_of_def (k := 3) F hm (F.bindsN fun _ _ _ _ _ _ us hl => match us, hl with | [_, _, _, _], _ => rfl) sc_shows_best_plan rfl fun cdv A outer s H E hr => sss_cons (ss_expr (se_q (sq_call C_look_at_lots hr (by decide) (sa_cons (sq_var 0) (sa_cons (sq_var 1) (sa_cons (sq_var 2) (sa_nil))))))) (sss_cons (ss_if (st_not (st_q (sq_call C_is_plan hr (by decide) (sa_cons (sq_var 0) (sa_cons (sq_var 3) (sa_nil)))))) (sss_one (ss_ret (se_q (sq_bl)))) (sss_nil)) (sss_cons (ss_set 4 hN (se_q (sq_call C_told_cost hr (by decide) (sa_cons (sq_var 0) (sa_cons (sq_var 1) (sa_cons (sq_var 2) (sa_cons (sq_call C_told_best hr (by decide) (sa_cons (sq_var 0) (sa_cons (sq_var 1) (sa_cons (sq_var 2) (sa_nil))))) (sa_nil)))))))) (sss_one (ss_ret (se_q (sq_cmp (sop_eq hr.units) (sq_call C_told_cost hr (by decide) (sa_cons (sq_var 0) (sa_cons (sq_var 1) (sa_cons (sq_var 2) (sa_cons (sq_var 3) (sa_nil)))))) (sq_var 4)))))))
theorem sc__law_is_plan_right : FnScope ["pot", "most", "high", "asked", "season", "plain", "at", "filling", "keeping", "best", "plan", "once", "one"] ["pot", "most", "high"] (defScope s__law_is_plan_right) := ⟨rfl, rfl, rfl, by decide +kernel, rfl, by decide +kernel, by decide +kernel⟩
theorem ok__law_is_plan_right (g : Fr mg) (F : FnP K "_law_is_plan_right" s__law_is_plan_right f fd) (hm : mg "_law_is_plan_right" = some (.ref f)) (C__law_cost : Fn P w K mg base 1 "_law_cost" m__law_cost) (C__law_least : Fn P w K mg base 1 "_law_least" m__law_least) (C__law_of : Fn P w K mg base 2 "_law_of" m__law_of) (C__law_take : Fn P w K mg base 1 "_law_take" m__law_take) (C_best_plan : Fn P w K mg base 4 "best_plan" m_best_plan) (C_cost_of : Fn P w K mg base 4 "cost_of" m_cost_of) (C_least_cost : Fn P w K mg base 4 "least_cost" m_least_cost) (C_shows_best_plan : Fn P w K mg base 4 "shows_best_plan" m_shows_best_plan) : Fn P w K mg base 5 "_law_is_plan_right" m__law_is_plan_right := by
  have hN := (sc__law_is_plan_right).nd
  exact fn_of_def (k := 4) F hm (F.bindsN fun _ _ _ _ _ _ us hl => match us, hl with | [_, _, _], _ => rfl) sc__law_is_plan_right rfl fun cdv A outer s H E hr => sss_cons (ss_set 3 hN (se_lst (sae_nil))) (sss_cons (ss_for (si_rng1 (sae_cons (se_callM C__law_take hr (by decide) (sam_q (sa_cons (sq_op sop_add (sq_var 1) (sq_int)) (sa_nil)))) (sae_nil)) g.f_range) (stg_name 4 hN) (sss_one (ss_expr (se_append 3 (se_op sop_mul (se_callT sca_int (sae_cons (se_callM C__law_take hr (by decide) (sam_q (sa_cons (sq_var 2) (sa_nil)))) (sae_nil)) g.f_int (by decide +kernel)) (se_callT sca_int (sae_cons (se_cmp sop_gt (se_callM C__law_take hr (by decide) (sam_q (sa_cons (sq_int) (sa_nil)))) (se_q (sq_int))) (sae_nil)) g.f_int (by decide +kernel))))))) (sss_cons (ss_set 3 hN (se_q (sq_callT sca_tuple (sa_cons (sq_var 3) (sa_nil)) g.f_tuple (by decide +kernel)))) (sss_cons (ss_par2 7 8 hN (sae_cons (se_callT sca_int (sae_cons (se_callM C__law_take hr (by decide) (sam_e (se_callML C__law_of hr (by decide) (sam_q (sa_cons (sq_lst (sa_cons (sq_int) (sa_cons (sq_op sop_pow (sq_int) (sq_int)) (sa_nil)))) (sa_nil)))) (sam_q (sa_nil)))) (sae_nil)) g.f_int (by decide +kernel)) (sae_cons (se_callT sca_int (sae_cons (se_callM C__law_take hr (by decide) (sam_e (se_callML C__law_of hr (by decide) (sam_q (sa_cons (sq_lst (sa_cons (sq_int) (sa_cons (sq_int) (sa_nil)))) (sa_nil)))) (sam_q (sa_nil)))) (sae_nil)) g.f_int (by decide +kernel)) (sae_nil)))) (sss_cons (ss_par2 9 10 hN (sae_cons (se_q (sq_call C__law_least hr (by decide) (sa_cons (sq_var 3) (sa_cons (sq_var 7) (sa_cons (sq_var 8) (sa_nil)))))) (sae_cons (se_q (sq_call C_best_plan hr (by decide) (sa_cons (sq_var 3) (sa_cons (sq_var 7) (sa_cons (sq_var 8) (sa_nil)))))) (sae_nil)))) (sss_cons (ss_if (st_w (sw_or (st_cmp (sop_ne hr.units) (sq_call C_least_cost hr (by decide) (sa_cons (sq_var 3) (sa_cons (sq_var 7) (sa_cons (sq_var 8) (sa_nil))))) (sq_ix (sq_var 9) (sq_un sun_neg (sq_int)))) (sw_or1 (st_cmp (sop_ne hr.units) (sq_call C__law_cost hr (by decide) (sa_cons (sq_var 3) (sa_cons (sq_var 7) (sa_cons (sq_var 8) (sa_cons (sq_var 10) (sa_nil)))))) (sq_ix (sq_var 9) (sq_un sun_neg (sq_int))))))) (sss_one (ss_ret (se_q (sq_bl)))) (sss_nil)) (sss_cons (ss_if (st_w (sw_or (st_cmp (sop_ne hr.units) (sq_call C_cost_of hr (by decide) (sa_cons (sq_var 3) (sa_cons (sq_var 7) (sa_cons (sq_var 8) (sa_cons (sq_var 10) (sa_nil)))))) (sq_ix (sq_var 9) (sq_un sun_neg (sq_int)))) (sw_or1 (st_cmp sop_isnot (sq_call C_shows_best_plan hr (by decide) (sa_cons (sq_var 3) (sa_cons (sq_var 7) (sa_cons (sq_var 8) (sa_cons (sq_var 10) (sa_nil)))))) (sq_bl))))) (sss_one (ss_ret (se_q (sq_bl)))) (sss_nil)) (sss_cons (ss_set 5 hN (se_move 3)) (sss_cons (ss_if (st_cmp (sop_ne hr.units) (sq_call C_cost_of hr (by decide) (sa_cons (sq_var 3) (sa_cons (sq_var 7) (sa_cons (sq_var 8) (sa_cons (sq_var 5) (sa_nil)))))) (sq_op sop_mul (sq_var 7) (sq_callB sca_len (sa_cons (sq_comp [("one", 12)] hN (siq_seq (sq_var 3)) (by kernel_rfl) (fun s H C cl fp => stg_name 12 hN) (fun s H C cl fp => sqts_one (sqt_cmp sop_gt (sq_var 12) (sq_int))) (fun s H C cl fp => sq_int)) (sa_nil)) g.f_len (by decide +kernel)))) (sss_one (ss_ret (se_q (sq_bl)))) (sss_nil)) (sss_cons (ss_if (st_cmp (sop_ne hr.units) (sq_var 3) (sq_tup (sa_nil))) (sss_cons (ss_set 11 hN (se_q (sq_op sop_add (sq_tup (sa_cons (sq_callB sca_sumA (sa_cons (sq_var 3) (sa_nil)) g.f_sum (by decide +kernel)) (sa_nil))) (sq_op sop_mulT (sq_tup (sa_cons (sq_int) (sa_nil))) (sq_op sop_sub (sq_callB sca_len (sa_cons (sq_var 3) (sa_nil)) g.f_len (by decide +kernel)) (sq_int)))))) (sss_one (ss_if (st_cmp (sop_ne hr.units) (sq_call C_cost_of hr (by decide) (sa_cons (sq_var 3) (sa_cons (sq_var 7) (sa_cons (sq_var 8) (sa_cons (sq_var 11) (sa_nil)))))) (sq_call C__law_cost hr (by decide) (sa_cons (sq_var 3) (sa_cons (sq_var 7) (sa_cons (sq_var 8) (sa_cons (sq_var 11) (sa_nil))))))) (sss_one (ss_ret (se_q (sq_bl)))) (sss_nil)))) (sss_nil)) (sss_cons (ss_set 6 hN (se_callT sca_int (sae_cons (se_callM C__law_take hr (by decide) (sam_q (sa_cons (sq_op sop_add (sq_callB sca_len (sa_cons (sq_var 3) (sa_nil)) g.f_len (by decide +kernel)) (sq_int)) (sa_nil)))) (sae_nil)) g.f_int (by decide +kernel))) (sss_one (ss_ret (se_q (sq_and (sq_cmp (sop_eq hr.units) (sq_callL C_least_cost hr (by decide) (sa_cons (sq_sl (sq_var 3) (spo_none) (spo_some (sq_var 6))) (sa_cons (sq_var 7) (sa_cons (sq_var 8) (sa_nil))))) (sq_ix (sq_var 9) (sq_var 6))) (sq_one (sq_cmp (sop_eq hr.units) (sq_var 9) (sq_callB (sca_sorted hr.units) (sa_cons (sq_var 9) (sa_nil)) g.f_sorted (by decide +kernel))))))))))))))))))
theorem sc__law_short : FnScope ["pressed", "asked", "room", "there", "can", "wanted"] ["pressed", "asked", "room"] (defScope s__law_short) := ⟨rfl, rfl, rfl, by decide +kernel, rfl, by decide +kernel, by decide +kernel⟩
theorem ok__law_short (g : Fr mg) (F : FnP K "_law_short" s__law_short f fd) (hm : mg "_law_short" = some (.ref f))  : Fn P w K mg base 1 "_law_short" m__law_short := by
  have hN := (sc__law_short).nd
  exact fn_of_def (k := 0) F hm (F.bindsN fun _ _ _ _ _ _ us hl => match us, hl with | [_, _, _], _ => rfl) sc__law_short rfl fun cdv A outer s H E hr => sss_cons (ss_set 3 hN (se_q (sq_int))) (sss_cons (ss_for (si_z2 (sar_cons (sr_f (sq_var 0)) (sar_cons (sr_f (sq_var 1)) (sar_nil))) g.f_zip) (stg_tup (stgs_cons (stg_name 4 hN) (stgs_cons (stg_name 5 hN) (stgs_nil)))) (sss_cons (ss_if (st_cmp sop_lt (sq_op sop_add (sq_var 3) (sq_var 4)) (sq_var 5)) (sss_one (ss_ret (se_q (sq_bl)))) (sss_nil)) (sss_one (ss_set 3 hN (se_q (sq_callB sca_min2 (sa_cons (sq_var 2) (sa_cons (sq_op sop_sub (sq_op sop_add (sq_var 3) (sq_var 4)) (sq_var 5)) (sa_nil))) g.f_min (by decide +kernel))))))) (sss_one (ss_ret (se_q (sq_bl)))))
theorem sc_look_at_storing : FnScope ["pressed", "asked", "room"] ["pressed", "asked", "room"] (defScope s_look_at_storing) := ⟨rfl, rfl, rfl, by decide +kernel, rfl, by decide +kernel, by decide +kernel⟩
theorem ok_look_at_storing (g : Fr mg) (F : FnP K "look_at_storing" s_look_at_storing f fd) (hm : mg "look_at_storing" = some (.ref f)) (C_are_ints : Fn P w K mg base 2 "are_ints" m_are_ints) (C_is_int : Fn P w K mg base 1 "is_int" m_is_int) : Fn P w K mg base 3 "look_at_storing" m_look_at_storing := by
  have hN := (sc_look_at_storing).nd
  exact fn_of_def (k := 2) F hm (F.bindsN fun _ _ _ _ _ _ us hl => match us, hl with | [_, _, _], _ => rfl) sc_look_at_storing rfl fun cdv A outer s H E hr => sss_cons (ss_if (st_w (sw_or (st_not (st_q (sq_call C_are_ints hr (by decide) (sa_cons (sq_var 0) (sa_cons (sq_int) (sa_cons (sq_gi g.c_MOST_AMOUNT) (sa_nil))))))) (sw_or1 (st_cmp sop_gt (sq_callB sca_len (sa_cons (sq_var 0) (sa_nil)) g.f_len (by decide +kernel)) (sq_gi g.c_MOST_SEASONS_storing))))) (sss_one (ss_never)) (sss_nil)) (sss_cons (ss_if (st_w (sw_or (st_not (st_q (sq_call C_are_ints hr (by decide) (sa_cons (sq_var 1) (sa_cons (sq_int) (sa_cons (sq_gi g.c_MOST_AMOUNT) (sa_nil))))))) (sw_or1 (st_cmp (sop_ne hr.units) (sq_callB sca_len (sa_cons (sq_var 1) (sa_nil)) g.f_len (by decide +kernel)) (sq_callB sca_len (sa_cons (sq_var 0) (sa_nil)) g.f_len (by decide +kernel)))))) (sss_one (ss_never)) (sss_nil)) (sss_one (ss_if (st_not (st_q (sq_call C_is_int hr (by decide) (sa_cons (sq_var 2) (sa_cons (sq_int) (sa_cons (sq_gi g.c_MOST_AMOUNT) (sa_nil))))))) (sss_one (ss_never)) (sss_nil))))
theorem sc_told_plan : FnScope ["pressed", "asked", "found", "needed", "most", "wanted", "part"] ["pressed", "asked"] (defScope s_told_plan) := ⟨rfl, rfl, rfl, by decide +kernel, rfl, by decide +kernel, by decide +kernel⟩
theorem ok_told_plan (g : Fr mg) (F : FnP K "told_plan" s_told_plan f fd) (hm : mg "told_plan" = some (.ref f))  : Fn P w K mg base 1 "told_plan" m_told_plan := by
  have hN := (sc_told_plan).nd
  exact fn_of_def (k := 0) F hm (F.bindsN fun _ _ _ _ _ _ us hl => match us, hl with | [_, _], _ => rfl) sc_told_plan rfl fun cdv A outer s H E hr => sss_cons (ss_par2 2 3 hN (sae_cons (se_lst (sae_nil)) (sae_cons (se_q (sq_int)) (sae_nil)))) (sss_cons (ss_for (si_seq (sr_o (sq_rev (sq_listZ2 (sa_cons (sq_var 0) (sa_cons (sq_var 1) (sa_nil))) g.f_list g.f_zip)))) (stg_tup (stgs_cons (stg_name 4 hN) (stgs_cons (stg_name 5 hN) (stgs_nil)))) (sss_cons (ss_aug 3 hN sip_add (se_move 5)) (sss_cons (ss_set 6 hN (se_q (sq_callB sca_min2 (sa_cons (sq_var 4) (sa_cons (sq_var 3) (sa_nil))) g.f_min (by decide +kernel)))) (sss_cons (ss_expr (se_append 2 (se_move 6))) (sss_one (ss_aug 3 hN sip_sub (se_move 6))))))) (sss_one (ss_ret (se_q (sq_callT sca_tuple (sa_cons (sq_rev (sq_var 2)) (sa_nil)) g.f_tuple (by decide +kernel))))))
theorem sc_told_short : FnScope ["pressed", "asked", "room", "kept", "first", "season", "most", "wanted"] ["pressed", "asked", "room"] (defScope s_told_short) := ⟨rfl, rfl, rfl, by decide +kernel, rfl, by decide +kernel, by decide +kernel⟩
theorem ok_told_short (g : Fr mg) (F : FnP K "told_short" s_told_short f fd) (hm : mg "told_short" = some (.ref f))  : Fn P w K mg base 1 "told_short" m_told_short := by
  have hN := (sc_told_short).nd
  exact fn_of_def (k := 0) F hm (F.bindsN fun _ _ _ _ _ _ us hl => match us, hl with | [_, _, _], _ => rfl) sc_told_short rfl fun cdv A outer s H E hr => sss_cons (ss_asg (se_tup (sae_cons (se_q (sq_int)) (sae_cons (se_q (sq_int)) (sae_nil)))) (stg_tup (stgs_cons (stg_name 3 hN) (stgs_cons (stg_name 4 hN) (stgs_nil))))) (sss_cons (ss_for (si_eZ (sar_cons (sr_f (sq_var 0)) (sar_cons (sr_f (sq_var 1)) (sar_nil))) g.f_enumerate g.f_zip) (stg_tup (stgs_cons (stg_name 5 hN) (stgs_cons (stg_tup (stgs_cons (stg_name 6 hN) (stgs_cons (stg_name 7 hN) (stgs_nil)))) (stgs_nil)))) (sss_cons (ss_if (st_cmp sop_lt (sq_op sop_add (sq_var 3) (sq_var 6)) (sq_var 7)) (sss_one (ss_ret (se_tup (sae_cons (se_move 4) (sae_cons (se_move 5) (sae_nil)))))) (sss_nil)) (sss_cons (ss_set 3 hN (se_q (sq_op sop_sub (sq_op sop_add (sq_var 3) (sq_var 6)) (sq_var 7)))) (sss_one (ss_if (st_cmp sop_ge (sq_var 3) (sq_var 2)) (sss_one (ss_par2 3 4 hN (sae_cons (se_move 2) (sae_cons (se_q (sq_op sop_add (sq_var 5) (sq_int))) (sae_nil))))) (sss_nil)))))) (sss_one (ss_ret (se_q (sq_non)))))
theorem sc_least_room : FnScope ["pressed", "asked", "kept", "found", "part", "wanted"] ["pressed", "asked"] (defScope s_least_room) := ⟨rfl, rfl, rfl, by decide +kernel, rfl, by decide +kernel, by decide +kernel⟩
theorem ok_least_room (g : Fr mg) (F : FnP K "least_room" s_least_room f fd) (hm : mg "least_room" = some (.ref f)) (C_look_at_storing : Fn P w K mg base 3 "look_at_storing" m_look_at_storing) (C_told_plan : Fn P w K mg base 1 "told_plan" m_told_plan) (C_told_short : Fn P w K mg base 1 "told_short" m_told_short) : Fn P w K mg base 4 "least_room" m_least_room := by
  have hN := (sc_least_room).nd
  exact fn_of_def (k := 3) F hm (F.bindsN fun _ _ _ _ _ _ us hl => match us, hl with | [_, _], _ => rfl) sc_least_room rfl fun cdv A outer s H E hr => sss_cons (ss_expr (se_q (sq_call C_look_at_storing hr (by decide) (sa_cons (sq_var 0) (sa_cons (sq_var 1) (sa_cons (sq_int) (sa_nil))))))) (sss_cons (ss_if (st_cmp sop_isnot (sq_call C_told_short hr (by decide) (sa_cons (sq_var 0) (sa_cons (sq_var 1) (sa_cons (sq_op sop_mul (sq_gi g.c_MOST_AMOUNT) (sq_gi g.c_MOST_SEASONS_storing)) (sa_nil))))) (sq_non)) (sss_one (ss_ret (se_q (sq_non)))) (sss_nil)) (sss_cons (ss_asg (se_tup (sae_cons (se_q (sq_int)) (sae_cons (se_q (sq_int)) (sae_nil)))) (stg_tup (stgs_cons (stg_name 2 hN) (stgs_cons (stg_name 3 hN) (stgs_nil))))) (sss_cons (ss_for (si_z2 (sar_cons (sr_o (sq_call C_told_plan hr (by decide) (sa_cons (sq_var 0) (sa_cons (sq_var 1) (sa_nil))))) (sar_cons (sr_f (sq_var 1)) (sar_nil))) g.f_zip) (stg_tup (stgs_cons (stg_name 4 hN) (stgs_cons (stg_name 5 hN) (stgs_nil)))) (sss_cons (ss_aug 2 hN sip_add (se_q (sq_op sop_sub (sq_var 4) (sq_var 5)))) (sss_one (ss_set 3 hN (se_q (sq_callB sca_max2 (sa_cons (sq_var 3) (sa_cons (sq_var 2) (sa_nil))) g.f_max (by decide +kernel))))))) (sss_one (ss_ret (se_move 3))))))
theorem sc__law_is_room_right : FnScope ["pot", "most", "high", "pressed", "asked", "least", "season"] ["pot", "most", "high"] (defScope s__law_is_room_right) := ⟨rfl, rfl, rfl, by decide +kernel, rfl, by decide +kernel, by decide +kernel⟩
theorem ok__law_is_room_right (g : Fr mg) (F : FnP K "_law_is_room_right" s__law_is_room_right f fd) (hm : mg "_law_is_room_right" = some (.ref f)) (C__law_short : Fn P w K mg base 1 "_law_short" m__law_short) (C__law_take : Fn P w K mg base 1 "_law_take" m__law_take) (C_least_room : Fn P w K mg base 4 "least_room" m_least_room) : Fn P w K mg base 5 "_law_is_room_right" m__law_is_room_right := by
  have hN := (sc__law_is_room_right).nd
  exact fn_of_def (k := 4) F hm (F.bindsN fun _ _ _ _ _ _ us hl => match us, hl with | [_, _, _], _ => rfl) sc__law_is_room_right rfl fun cdv A outer s H E hr => sss_cons (ss_set 3 hN (se_callT sca_tuple (sae_cons (se_comp [("season", 6)] hN (si_rng1 (sae_cons (se_callM C__law_take hr (by decide) (sam_q (sa_cons (sq_op sop_add (sq_var 1) (sq_int)) (sa_nil)))) (sae_nil)) g.f_range) (by kernel_rfl) (fun s H C cl fp => stg_name 6 hN) (fun s H C cl fp => sts_nil) (fun s H C cl fp => se_callT sca_int (sae_cons (se_callM C__law_take hr (by decide) (sam_q (sa_cons (sq_var 2) (sa_nil)))) (sae_nil)) g.f_int (by decide +kernel))) (sae_nil)) g.f_tuple (by decide +kernel))) (sss_cons (ss_set 4 hN (se_callT sca_tuple (sae_cons (se_comp [("season", 6)] hN (si_seq (sr_f (sq_var 3))) (by kernel_rfl) (fun s H C cl fp => stg_name 6 hN) (fun s H C cl fp => sts_nil) (fun s H C cl fp => se_callT sca_int (sae_cons (se_callM C__law_take hr (by decide) (sam_q (sa_cons (sq_callB sca_max2 (sa_cons (sq_int) (sa_cons (sq_op sop_fdiv (sq_op sop_mul (sq_int) (sq_var 2)) (sq_int)) (sa_nil))) g.f_max (by decide +kernel)) (sa_nil)))) (sae_nil)) g.f_int (by decide +kernel))) (sae_nil)) g.f_tuple (by decide +kernel))) (sss_cons (ss_set 5 hN (se_q (sq_call C_least_room hr (by decide) (sa_cons (sq_var 3) (sa_cons (sq_var 4) (sa_nil)))))) (sss_cons (ss_if (st_cmp sop_is (sq_var 5) (sq_non)) (sss_one (ss_ret (se_q (sq_call C__law_short hr (by decide) (sa_cons (sq_var 3) (sa_cons (sq_var 4) (sa_cons (sq_op sop_pow (sq_int) (sq_int)) (sa_nil)))))))) (sss_nil)) (sss_one (ss_ret (se_q (sq_and (sq_not (sq_call C__law_short hr (by decide) (sa_cons (sq_var 3) (sa_cons (sq_var 4) (sa_cons (sq_var 5) (sa_nil)))))) (sq_one (sq_or (sq_cmp (sop_eq hr.units) (sq_var 5) (sq_int)) (sq_one (sq_call C__law_short hr (by decide) (sa_cons (sq_var 3) (sa_cons (sq_var 4) (sa_cons (sq_op sop_sub (sq_var 5) (sq_int)) (sa_nil)))))))))))))))
theorem sc_does_store : FnScope ["pressed", "asked", "room", "value", "kept", "most", "wanted", "part"] ["pressed", "asked", "room", "value"] (defScope s_does_store) := ⟨rfl, rfl, rfl, by decide +kernel, rfl, by decide +kernel, by decide +kernel⟩
theorem ok_does_store (g : Fr mg) (F : FnP K "does_store" s_does_store f fd) (hm : mg "does_store" = some (.ref f)) (C_are_ints : Fn P w K mg base 2 "are_ints" m_are_ints) : Fn P w K mg base 3 "does_store" m_does_store := by
  have hN := (sc_does_store).nd
  exact fn_of_def (k := 2) F hm (F.bindsN fun _ _ _ _ _ _ us hl => match us, hl with | [_, _, _, _], _ => rfl) sc_does_store rfl fun cdv A outer s H E hr => sss_cons (ss_if (st_w (sw_or (st_not (st_q (sq_call C_are_ints hr (by decide) (sa_cons (sq_var 3) (sa_cons (sq_int) (sa_cons (sq_gi g.c_MOST_AMOUNT) (sa_nil))))))) (sw_or1 (st_cmp (sop_ne hr.units) (sq_callB sca_len (sa_cons (sq_var 3) (sa_nil)) g.f_len (by decide +kernel)) (sq_callB sca_len (sa_cons (sq_var 0) (sa_nil)) g.f_len (by decide +kernel)))))) (sss_one (ss_ret (se_q (sq_bl)))) (sss_nil)) (sss_cons (ss_set 4 hN (se_q (sq_int))) (sss_cons (ss_for (si_z3 (sar_cons (sr_f (sq_var 0)) (sar_cons (sr_f (sq_var 1)) (sar_cons (sr_f (sq_var 3)) (sar_nil)))) g.f_zip) (stg_tup (stgs_cons (stg_name 5 hN) (stgs_cons (stg_name 6 hN) (stgs_cons (stg_name 7 hN) (stgs_nil))))) (sss_cons (ss_aug 4 hN sip_add (se_q (sq_op sop_sub (sq_var 7) (sq_var 6)))) (sss_one (ss_if (st_w (sw_or (st_cmp sop_gt (sq_var 7) (sq_var 5)) (sw_or1 (st_not (st_chain sop_le sop_le (sq_int) (sq_var 4) (sq_var 2)))))) (sss_one (ss_ret (se_q (sq_bl)))) (sss_nil))))) (sss_one (ss_ret (se_q (sq_bl))))))
theorem sc_how_much : FnScope ["pressed", "asked", "room", "first", "last", "there"] ["pressed", "asked", "room", "first", "last"] (defScope s_how_much) := ⟨rfl, rfl, rfl, by decide +kernel, rfl, by decide +kernel, by decide +kernel⟩
theorem ok_how_much (g : Fr mg) (F : FnP K "how_much" s_how_much f fd) (hm : mg "how_much" = some (.ref f))  : Fn P w K mg base 1 "how_much" m_how_much := by
  have hN := (sc_how_much).nd
  exact fn_of_def (k := 0) F hm (F.bindsN fun _ _ _ _ _ _ us hl => match us, hl with | [_, _, _, _, _], _ => rfl) sc_how_much rfl fun cdv A outer s H E hr => sss_cons (ss_set 5 hN (se_q (sq_op sop_add (sq_callB sca_sumA (sa_cons (sq_sl (sq_var 0) (spo_some (sq_var 3)) (spo_some (sq_op sop_add (sq_var 4) (sq_int)))) (sa_nil)) g.f_sum (by decide +kernel)) (sq_if (sqt_cmp sop_gt (sq_var 3) (sq_int)) (sq_var 2) (sq_int))))) (sss_one (ss_ret (se_tup (sae_cons (se_q (sq_callB sca_sumA (sa_cons (sq_sl (sq_var 1) (spo_some (sq_var 3)) (spo_some (sq_op sop_add (sq_var 4) (sq_int)))) (sa_nil)) g.f_sum (by decide +kernel))) (sae_cons (se_move 5) (sae_nil))))))
theorem sc_is_told : FnScope ["value", "sizes"] ["value", "sizes"] (defScope s_is_told) := ⟨rfl, rfl, rfl, by decide +kernel, rfl, by decide +kernel, by decide +kernel⟩
theorem ok_is_told (g : Fr mg) (F : FnP K "is_told" s_is_told f fd) (hm : mg "is_told" = some (.ref f))  : Fn P w K mg base 1 "is_told" m_is_told := by
  have hN := (sc_is_told).nd
  exact fn_of_def (k := 0) F hm (F.bindsN fun _ _ _ _ _ _ us hl => match us, hl with | [_, _], _ => rfl) sc_is_told rfl fun cdv A outer s H E hr => sss_one (ss_ret (se_q (sq_and (sq_isi .tuple (sq_var 0) g.f_isinstance g.f_tuple (by decide +kernel)) (sq_and (sq_cmp (sop_in (units65 hr)) (sq_callB sca_len (sa_cons (sq_var 0) (sa_nil)) g.f_len (by decide +kernel)) (sq_var 1)) (sq_one (sq_isi .str (sq_ix (sq_var 0) (sq_int)) g.f_isinstance g.f_str (by decide +kernel)))))))
theorem sc_shows_store : FnScope ["pressed", "asked", "room", "value", "wanted", "there"] ["pressed", "asked", "room", "value"] (defScope s_shows_store) := ⟨rfl, rfl, rfl, by decide +kernel, rfl, by decide +kernel, by decide +kernel⟩
theorem ok_shows_store (g : Fr mg) (F : FnP K "shows_store" s_shows_store f fd) (hm : mg "shows_store" = some (.ref f)) (C_are_ints : Fn P w K mg base 2 "are_ints" m_are_ints) (C_does_store : Fn P w K mg base 3 "does_store" m_does_store) (C_how_much : Fn P w K mg base 1 "how_much" m_how_much) (C_is_told : Fn P w K mg base 1 "is_told" m_is_told) (C_look_at_storing : Fn P w K mg base 3 "look_at_storing" m_look_at_storing) : Fn P w K mg base 4 "shows_store" m_shows_store := by
  have hN := (sc_shows_store).nd
  exact fn_of_def (k := 3) F hm (F.bindsN fun _ _ _ _ _ _ us hl => match us, hl with | [_, _, _, _], _ => rfl) sc_shows_store rfl fun cdv A outer s H E hr => sss_cons (ss_expr (se_q (sq_call C_look_at_storing hr (by decide) (sa_cons (sq_var 0) (sa_cons (sq_var 1) (sa_cons (sq_var 2) (sa_nil))))))) (sss_cons (ss_if (st_not (st_q (sq_call C_is_told hr (by decide) (sa_cons (sq_var 3) (sa_cons (sq_tup (sa_cons (sq_int) (sa_cons (sq_gi g.c_THREE) (sa_nil)))) (sa_nil)))))) (sss_one (ss_ret (se_q (sq_bl)))) (sss_nil)) (sss_cons (ss_if (st_cmp (sop_eq hr.units) (sq_ix (sq_var 3) (sq_int)) (sq_gs g.c_PLAN)) (sss_one (ss_ret (se_q (sq_and (sq_cmp (sop_eq hr.units) (sq_callB sca_len (sa_cons (sq_var 3) (sa_nil)) g.f_len (by decide +kernel)) (sq_int)) (sq_one (sq_call C_does_store hr (by decide) (sa_cons (sq_var 0) (sa_cons (sq_var 1) (sa_cons (sq_var 2) (sa_cons (sq_ix (sq_var 3) (sq_int)) (sa_nil))))))))))) (sss_nil)) (sss_cons (ss_if (st_w (sw_or (st_cmp (sop_ne hr.units) (sq_ix (sq_var 3) (sq_int)) (sq_gs g.c_CROWD)) (sw_or (st_cmp (sop_ne hr.units) (sq_callB sca_len (sa_cons (sq_var 3) (sa_nil)) g.f_len (by decide +kernel)) (sq_gi g.c_THREE)) (sw_or1 (st_not (st_q (sq_callL C_are_ints hr (by decide) (sa_cons (sq_sl (sq_var 3) (spo_some (sq_int)) (spo_none)) (sa_cons (sq_int) (sa_cons (sq_op sop_sub (sq_callB sca_len (sa_cons (sq_var 0) (sa_nil)) g.f_len (by decide +kernel)) (sq_int)) (sa_nil))))))))))) (sss_one (ss_ret (se_q (sq_bl)))) (sss_nil)) (sss_cons (ss_if (st_cmp sop_gt (sq_ix (sq_var 3) (sq_int)) (sq_ix (sq_var 3) (sq_int))) (sss_one (ss_ret (se_q (sq_bl)))) (sss_nil)) (sss_cons (ss_asg (se_q (sq_call C_how_much hr (by decide) (sa_cons (sq_var 0) (sa_cons (sq_var 1) (sa_cons (sq_var 2) (sa_cons (sq_ix (sq_var 3) (sq_int)) (sa_cons (sq_ix (sq_var 3) (sq_int)) (sa_nil)))))))) (stg_tup (stgs_cons (stg_name 4 hN) (stgs_cons (stg_name 5 hN) (stgs_nil))))) (sss_one (ss_ret (se_q (sq_cmp sop_gt (sq_var 4) (sq_var 5))))))))))
theorem sc_store : FnScope ["pressed", "asked", "room", "short"] ["pressed", "asked", "room"] (defScope s_store) := ⟨rfl, rfl, rfl, by decide +kernel, rfl, by decide +kernel, by decide +kernel⟩
theorem ok_store (g : Fr mg) (F : FnP K "store" s_store f fd) (hm : mg "store" = some (.ref f)) (C_look_at_storing : Fn P w K mg base 3 "look_at_storing" m_look_at_storing) (C_told_plan : Fn P w K mg base 1 "told_plan" m_told_plan) (C_told_short : Fn P w K mg base 1 "told_short" m_told_short) : Fn P w K mg base 4 "store" m_store := by
  have hN := (sc_store).nd
  exact fn_of_def (k := 3) F hm (F.bindsN fun _ _ _ _ _ _ us hl => match us, hl with | [_, _, _], _ => rfl) sc_store rfl fun cdv A outer s H E hr => sss_cons (ss_expr (se_q (sq_call C_look_at_storing hr (by decide) (sa_cons (sq_var 0) (sa_cons (sq_var 1) (sa_cons (sq_var 2) (sa_nil))))))) (sss_cons (ss_set 3 hN (se_q (sq_call C_told_short hr (by decide) (sa_cons (sq_var 0) (sa_cons (sq_var 1) (sa_cons (sq_var 2) (sa_nil))))))) (sss_one (ss_ret (se_q (sq_if (sqt_cmp sop_isnot (sq_var 3) (sq_non)) (sq_tup (sa_cons (sq_gs g.c_CROWD) (sa_star (sq_var 3) (sa_nil)))) (sq_tup (sa_cons (sq_gs g.c_PLAN) (sa_cons (sq_call C_told_plan hr (by decide) (sa_cons (sq_var 0) (sa_cons (sq_var 1) (sa_nil)))) (sa_nil)))))))))
theorem sc__law_is_store_right : FnScope ["pot", "most", "high", "pressed", "asked", "room", "there", "told", "is_short", "lacks", "can", "wanted", "part", "first", "last", "season"] ["pot", "most", "high"] (defScope s__law_is_store_right) := ⟨rfl, rfl, rfl, by decide +kernel, rfl, by decide +kernel, by decide +kernel⟩
theorem ok__law_is_store_right (g : Fr mg) (F : FnP K "_law_is_store_right" s__law_is_store_right f fd) (hm : mg "_law_is_store_right" = some (.ref f)) (C__law_of : Fn P w K mg base 2 "_law_of" m__law_of) (C__law_short : Fn P w K mg base 1 "_law_short" m__law_short) (C__law_take : Fn P w K mg base 1 "_law_take" m__law_take) (C_shows_store : Fn P w K mg base 4 "shows_store" m_shows_store) (C_store : Fn P w K mg base 4 "store" m_store) : Fn P w K mg base 5 "_law_is_store_right" m__law_is_store_right := by
  have hN := (sc__law_is_store_right).nd
  exact fn_of_def (k := 4) F hm (F.bindsN fun _ _ _ _ _ _ us hl => match us, hl with | [_, _, _], _ => rfl) sc__law_is_store_right rfl fun cdv A outer s H E hr => sss_cons (ss_set 3 hN (se_callT sca_tuple (sae_cons (se_comp [("season", 15)] hN (si_rng1 (sae_cons (se_callM C__law_take hr (by decide) (sam_q (sa_cons (sq_op sop_add (sq_var 1) (sq_int)) (sa_nil)))) (sae_nil)) g.f_range) (by kernel_rfl) (fun s H C cl fp => stg_name 15 hN) (fun s H C cl fp => sts_nil) (fun s H C cl fp => se_callT sca_int (sae_cons (se_callM C__law_take hr (by decide) (sam_q (sa_cons (sq_var 2) (sa_nil)))) (sae_nil)) g.f_int (by decide +kernel))) (sae_nil)) g.f_tuple (by decide +kernel))) (sss_cons (ss_set 4 hN (se_callT sca_tuple (sae_cons (se_comp [("season", 15)] hN (si_seq (sr_f (sq_var 3))) (by kernel_rfl) (fun s H C cl fp => stg_name 15 hN) (fun s H C cl fp => sts_nil) (fun s H C cl fp => se_callT sca_int (sae_cons (se_callM C__law_take hr (by decide) (sam_q (sa_cons (sq_callB sca_max2 (sa_cons (sq_int) (sa_cons (sq_op sop_fdiv (sq_op sop_mul (sq_int) (sq_var 2)) (sq_int)) (sa_nil))) g.f_max (by decide +kernel)) (sa_nil)))) (sae_nil)) g.f_int (by decide +kernel))) (sae_nil)) g.f_tuple (by decide +kernel))) (sss_cons (ss_set 5 hN (se_op sop_mod (se_callT sca_int (sae_cons (se_callM C__law_take hr (by decide) (sam_e (se_callML C__law_of hr (by decide) (sam_q (sa_cons (sq_lst (sa_cons (sq_var 2) (sa_cons (sq_op sop_mul (sq_int) (sq_var 2)) (sa_nil)))) (sa_nil)))) (sam_q (sa_nil)))) (sae_nil)) g.f_int (by decide +kernel)) (se_q (sq_op sop_add (sq_op sop_pow (sq_int) (sq_int)) (sq_int))))) (sss_cons (ss_par2 7 8 hN (sae_cons (se_q (sq_call C_store hr (by decide) (sa_cons (sq_var 3) (sa_cons (sq_var 4) (sa_cons (sq_var 5) (sa_nil)))))) (sae_cons (se_q (sq_call C__law_short hr (by decide) (sa_cons (sq_var 3) (sa_cons (sq_var 4) (sa_cons (sq_var 5) (sa_nil)))))) (sae_nil)))) (sss_cons (ss_if (st_w (sw_or (st_cmp (sop_ne hr.units) (sq_cmp (sop_eq hr.units) (sq_ix (sq_var 7) (sq_int)) (sq_str)) (sq_var 8)) (sw_or1 (st_cmp sop_isnot (sq_call C_shows_store hr (by decide) (sa_cons (sq_var 3) (sa_cons (sq_var 4) (sa_cons (sq_var 5) (sa_cons (sq_var 7) (sa_nil)))))) (sq_bl))))) (sss_one (ss_ret (se_q (sq_bl)))) (sss_nil)) (sss_cons (ss_if (st_q (sq_var 8)) (sss_cons (ss_asg (se_q (sq_sl (sq_var 7) (spo_some (sq_int)) (spo_none))) (stg_tup (stgs_cons (stg_name 13 hN) (stgs_cons (stg_name 14 hN) (stgs_nil))))) (sss_cons (ss_set 9 hN (se_q (sq_op sop_sub (sq_callB sca_sumA (sa_cons (sq_sl (sq_var 4) (spo_some (sq_var 13)) (spo_some (sq_op sop_add (sq_var 14) (sq_int)))) (sa_nil)) g.f_sum (by decide +kernel)) (sq_callB sca_sumA (sa_cons (sq_sl (sq_var 3) (spo_some (sq_var 13)) (spo_some (sq_op sop_add (sq_var 14) (sq_int)))) (sa_nil)) g.f_sum (by decide +kernel))))) (sss_one (ss_ret (se_q (sq_cmp sop_gt (sq_var 9) (sq_if (sqt_cmp sop_gt (sq_var 13) (sq_int)) (sq_var 5) (sq_int)))))))) (sss_nil)) (sss_cons (ss_set 6 hN (se_q (sq_int))) (sss_cons (ss_for (si_z3 (sar_cons (sr_f (sq_var 3)) (sar_cons (sr_f (sq_var 4)) (sar_cons (sr_o (sq_ix (sq_var 7) (sq_int))) (sar_nil)))) g.f_zip) (stg_tup (stgs_cons (stg_name 10 hN) (stgs_cons (stg_name 11 hN) (stgs_cons (stg_name 12 hN) (stgs_nil))))) (sss_cons (ss_set 6 hN (se_q (sq_op sop_sub (sq_op sop_add (sq_var 6) (sq_var 12)) (sq_var 11)))) (sss_one (ss_if (st_w (sw_or (st_not (st_chain sop_le sop_le (sq_int) (sq_var 12) (sq_var 10))) (sw_or1 (st_not (st_chain sop_le sop_le (sq_int) (sq_var 6) (sq_var 5)))))) (sss_one (ss_ret (se_q (sq_bl)))) (sss_nil))))) (sss_one (ss_ret (se_q (sq_bl)))))))))))
theorem sc__law_right : FnScope ["pot", "most", "high"] ["pot"] (defScope s__law_right) := ⟨rfl, rfl, rfl, by decide +kernel, rfl, by decide +kernel, by decide +kernel⟩
theorem ok__law_right (g : Fr mg) (F : FnP K "_law_right" s__law_right f fd) (hm : mg "_law_right" = some (.ref f)) (C__law_is_plan_right : Fn P w K mg base 5 "_law_is_plan_right" m__law_is_plan_right) (C__law_is_room_right : Fn P w K mg base 5 "_law_is_room_right" m__law_is_room_right) (C__law_is_store_right : Fn P w K mg base 5 "_law_is_store_right" m__law_is_store_right) : Fn P w K mg base 6 "_law_right" m__law_right := by
  have hN := (sc__law_right).nd
  exact fn_of_def (k := 5) F hm (F.bindsN fun _ _ _ _ _ _ us hl => match us, hl with | [_], _ => rfl) sc__law_right rfl fun cdv A outer s H E hr => sss_cons (ss_for (si_seq (sr_o (sq_tup (sa_cons (sq_tup (sa_cons (sq_int) (sa_cons (sq_int) (sa_nil)))) (sa_cons (sq_tup (sa_cons (sq_int) (sa_cons (sq_int) (sa_nil)))) (sa_cons (sq_tup (sa_cons (sq_int) (sa_cons (sq_int) (sa_nil)))) (sa_nil))))))) (stg_tup (stgs_cons (stg_name 1 hN) (stgs_cons (stg_name 2 hN) (stgs_nil)))) (sss_one (ss_if (st_not (st_e (se_callM C__law_is_plan_right hr (by decide) (sam_q (sa_cons (sq_var 1) (sa_cons (sq_var 2) (sa_nil))))))) (sss_one (ss_ret (se_q (sq_bl)))) (sss_nil)))) (sss_cons (ss_for (si_seq (sr_o (sq_tup (sa_cons (sq_tup (sa_cons (sq_int) (sa_cons (sq_int) (sa_nil)))) (sa_cons (sq_tup (sa_cons (sq_int) (sa_cons (sq_int) (sa_nil)))) (sa_cons (sq_tup (sa_cons (sq_int) (sa_cons (sq_op sop_add (sq_op sop_pow (sq_int) (sq_int)) (sq_int)) (sa_nil)))) (sa_nil))))))) (stg_tup (stgs_cons (stg_name 1 hN) (stgs_cons (stg_name 2 hN) (stgs_nil)))) (sss_one (ss_if (st_w (sw_or (st_not (st_e (se_callM C__law_is_store_right hr (by decide) (sam_q (sa_cons (sq_var 1) (sa_cons (sq_var 2) (sa_nil))))))) (sw_or1 (st_not (st_e (se_callM C__law_is_room_right hr (by decide) (sam_q (sa_cons (sq_var 1) (sa_cons (sq_var 2) (sa_nil)))))))))) (sss_one (ss_ret (se_q (sq_bl)))) (sss_nil)))) (sss_one (ss_ret (se_q (sq_bl)))))
theorem sc_law : FnScope ["script", "place"] ["script"] (defScope s_law) := ⟨rfl, rfl, rfl, by decide +kernel, rfl, by decide +kernel, by decide +kernel⟩
theorem law_ok (g : Fr mg) (F : FnP K "law" s_law f fd) (C__law_cells : Fn P w K mg base 1 "_law_cells" m__law_cells) (C__law_pot : Fn P w K mg base 1 "_law_pot" m__law_pot) (C__law_right : Fn P w K mg base 6 "_law_right" m__law_right) : FnOk P w K mg base CX0 7 f fd ["script"] (spF K m_law) := by
  have hN := (sc_law).nd
  exact def_ok (k := 6) F sc_law rfl fun cdv A outer s H E hr => sss_one (ss_ret (se_q (sq_callB sca_all (sa_cons (sq_comp [("place", 1)] hN (siq_seq (sq_call C__law_cells hr (by decide) (sa_cons (sq_var 0) (sa_cons (sq_int) (sa_nil))))) (by kernel_rfl) (fun s H C cl fp => stg_name 1 hN) (fun s H C cl fp => sqts_nil) (fun s H C cl fp => sq_call C__law_right hr (by decide) (sa_cons (sq_call C__law_pot hr (by decide) (sa_cons (sq_var 0) (sa_cons (sq_var 1) (sa_nil)))) (sa_nil)))) (sa_nil)) g.f_all (by decide +kernel))))
end
def d__law_cells : He.DefD := ⟨("_law_cells", none), "_law_cells", "_law_cells", defArgs s__law_cells, defBody s__law_cells, defScope s__law_cells, [], []⟩
def d__law_pot : He.DefD := ⟨("_law_pot", none), "_law_pot", "_law_pot", defArgs s__law_pot, defBody s__law_pot, defScope s__law_pot, [], []⟩
def d__law_cost : He.DefD := ⟨("_law_cost", none), "_law_cost", "_law_cost", defArgs s__law_cost, defBody s__law_cost, defScope s__law_cost, [], []⟩
def d__law_least : He.DefD := ⟨("_law_least", none), "_law_least", "_law_least", defArgs s__law_least, defBody s__law_least, defScope s__law_least, [], []⟩
def d__law_take : He.DefD := ⟨("_law_take", none), "_law_take", "_law_take", defArgs s__law_take, defBody s__law_take, defScope s__law_take, [], []⟩
def d__law_of : He.DefD := ⟨("_law_of", none), "_law_of", "_law_of", defArgs s__law_of, defBody s__law_of, defScope s__law_of, [], []⟩
def d_is_int : He.DefD := ⟨("is_int", none), "is_int", "is_int", defArgs s_is_int, defBody s_is_int, defScope s_is_int, [], []⟩
def d_are_ints : He.DefD := ⟨("are_ints", none), "are_ints", "are_ints", defArgs s_are_ints, defBody s_are_ints, defScope s_are_ints, [], []⟩
def d_look_at_lots : He.DefD := ⟨("look_at_lots", none), "look_at_lots", "look_at_lots", defArgs s_look_at_lots, defBody s_look_at_lots, defScope s_look_at_lots, [], []⟩
def d_told_best : He.DefD := ⟨("told_best", none), "told_best", "told_best", defArgs s_told_best, defBody s_told_best, defScope s_told_best, [], []⟩
def d_best_plan : He.DefD := ⟨("best_plan", none), "best_plan", "best_plan", defArgs s_best_plan, defBody s_best_plan, defScope s_best_plan, [], []⟩
def d_is_plan : He.DefD := ⟨("is_plan", none), "is_plan", "is_plan", defArgs s_is_plan, defBody s_is_plan, defScope s_is_plan, [], []⟩
def d_told_cost : He.DefD := ⟨("told_cost", none), "told_cost", "told_cost", defArgs s_told_cost, defBody s_told_cost, defScope s_told_cost, [], []⟩
def d_cost_of : He.DefD := ⟨("cost_of", none), "cost_of", "cost_of", defArgs s_cost_of, defBody s_cost_of, defScope s_cost_of, [], []⟩
def d_least_cost : He.DefD := ⟨("least_cost", none), "least_cost", "least_cost", defArgs s_least_cost, defBody s_least_cost, defScope s_least_cost, [], []⟩
def d_shows_best_plan : He.DefD := ⟨("shows_best_plan", none), "shows_best_plan", "shows_best_plan", defArgs s_shows_best_plan, defBody s_shows_best_plan, defScope s_shows_best_plan, [], []⟩
def d__law_is_plan_right : He.DefD := ⟨("_law_is_plan_right", none), "_law_is_plan_right", "_law_is_plan_right", defArgs s__law_is_plan_right, defBody s__law_is_plan_right, defScope s__law_is_plan_right, [], []⟩
def d__law_short : He.DefD := ⟨("_law_short", none), "_law_short", "_law_short", defArgs s__law_short, defBody s__law_short, defScope s__law_short, [], []⟩
def d_look_at_storing : He.DefD := ⟨("look_at_storing", none), "look_at_storing", "look_at_storing", defArgs s_look_at_storing, defBody s_look_at_storing, defScope s_look_at_storing, [], []⟩
def d_told_plan : He.DefD := ⟨("told_plan", none), "told_plan", "told_plan", defArgs s_told_plan, defBody s_told_plan, defScope s_told_plan, [], []⟩
def d_told_short : He.DefD := ⟨("told_short", none), "told_short", "told_short", defArgs s_told_short, defBody s_told_short, defScope s_told_short, [], []⟩
def d_least_room : He.DefD := ⟨("least_room", none), "least_room", "least_room", defArgs s_least_room, defBody s_least_room, defScope s_least_room, [], []⟩
def d__law_is_room_right : He.DefD := ⟨("_law_is_room_right", none), "_law_is_room_right", "_law_is_room_right", defArgs s__law_is_room_right, defBody s__law_is_room_right, defScope s__law_is_room_right, [], []⟩
def d_does_store : He.DefD := ⟨("does_store", none), "does_store", "does_store", defArgs s_does_store, defBody s_does_store, defScope s_does_store, [], []⟩
def d_how_much : He.DefD := ⟨("how_much", none), "how_much", "how_much", defArgs s_how_much, defBody s_how_much, defScope s_how_much, [], []⟩
def d_is_told : He.DefD := ⟨("is_told", none), "is_told", "is_told", defArgs s_is_told, defBody s_is_told, defScope s_is_told, [], []⟩
def d_shows_store : He.DefD := ⟨("shows_store", none), "shows_store", "shows_store", defArgs s_shows_store, defBody s_shows_store, defScope s_shows_store, [], []⟩
def d_store : He.DefD := ⟨("store", none), "store", "store", defArgs s_store, defBody s_store, defScope s_store, [], []⟩
def d__law_is_store_right : He.DefD := ⟨("_law_is_store_right", none), "_law_is_store_right", "_law_is_store_right", defArgs s__law_is_store_right, defBody s__law_is_store_right, defScope s__law_is_store_right, [], []⟩
def d__law_right : He.DefD := ⟨("_law_right", none), "_law_right", "_law_right", defArgs s__law_right, defBody s__law_right, defScope s__law_right, [], []⟩
def d_law : He.DefD := ⟨("law", none), "law", "law", defArgs s_law, defBody s_law, defScope s_law, [], []⟩
def fnl : List He.DefD := [d__law_cells, d__law_pot, d__law_cost, d__law_least, d__law_take, d__law_of, d_is_int, d_are_ints, d_look_at_lots, d_told_best, d_best_plan, d_is_plan, d_told_cost, d_cost_of, d_least_cost, d_shows_best_plan, d__law_is_plan_right, d__law_short, d_look_at_storing, d_told_plan, d_told_short, d_least_room, d__law_is_room_right, d_does_store, d_how_much, d_is_told, d_shows_store, d_store, d__law_is_store_right, d__law_right, d_law]
def fal : List He.Fa := [.glo "_law_cells", .glo "_law_pot", .glo "_law_cost", .glo "_law_least", .glo "_law_take", .glo "_law_of", .glo "is_int", .glo "are_ints", .glo "look_at_lots", .glo "told_best", .glo "best_plan", .glo "is_plan", .glo "told_cost", .glo "cost_of", .glo "least_cost", .glo "shows_best_plan", .glo "_law_is_plan_right", .glo "_law_short", .glo "look_at_storing", .glo "told_plan", .glo "told_short", .glo "least_room", .glo "_law_is_room_right", .glo "does_store", .glo "how_much", .glo "is_told", .glo "shows_store", .glo "store", .glo "_law_is_store_right", .glo "_law_right", .glo "law", .free "abs", .free "all", .free "bool", .free "enumerate", .free "int", .free "isinstance", .free "len", .free "list", .free "max", .free "min", .free "range", .free "sorted", .free "str", .free "sum", .free "tuple", .free "zip", .str "CROWD" "crowd", .int "MOST_AMOUNT" 1000000, .int "MOST_ASKED" 10000, .int "MOST_COST" 1000000, .int "MOST_SEASONS_lots" 60, .int "MOST_SEASONS_storing" 100, .str "PLAN" "plan", .int "THREE" 3]
theorem facts {P : Program} {w : World} {K : PySem.W.Frag} {h : Heap} {mg : Str → Option Value} {f : Addr} (X : K.In h) (G : h.Ns mainGlobals mg) (hfa : mg ("law" : Str) = some (.ref f)) (c : He.SaysD fal fnl K) :
    ∃ fd : FuncData, (∀ (s : Shared) (v : Value), BindsTo s fd ⟨[v], []⟩ [("script", v)]) ∧ ∀ base : Heap, K.In base → base.Ns mainGlobals mg → FnOk P w K mg base CX0 7 f fd ["script"] (spF K m_law) := by
  obtain ⟨fd__law_cells, F__law_cells⟩ := c.def_ 0 (d := d__law_cells) rfl
  obtain ⟨fd__law_pot, F__law_pot⟩ := c.def_ 1 (d := d__law_pot) rfl
  obtain ⟨fd__law_cost, F__law_cost⟩ := c.def_ 2 (d := d__law_cost) rfl
  obtain ⟨fd__law_least, F__law_least⟩ := c.def_ 3 (d := d__law_least) rfl
  obtain ⟨fd__law_take, F__law_take⟩ := c.def_ 4 (d := d__law_take) rfl
  obtain ⟨fd__law_of, F__law_of⟩ := c.def_ 5 (d := d__law_of) rfl
  obtain ⟨fd_is_int, F_is_int⟩ := c.def_ 6 (d := d_is_int) rfl
  obtain ⟨fd_are_ints, F_are_ints⟩ := c.def_ 7 (d := d_are_ints) rfl
  obtain ⟨fd_look_at_lots, F_look_at_lots⟩ := c.def_ 8 (d := d_look_at_lots) rfl
  obtain ⟨fd_told_best, F_told_best⟩ := c.def_ 9 (d := d_told_best) rfl
  obtain ⟨fd_best_plan, F_best_plan⟩ := c.def_ 10 (d := d_best_plan) rfl
  obtain ⟨fd_is_plan, F_is_plan⟩ := c.def_ 11 (d := d_is_plan) rfl
  obtain ⟨fd_told_cost, F_told_cost⟩ := c.def_ 12 (d := d_told_cost) rfl
  obtain ⟨fd_cost_of, F_cost_of⟩ := c.def_ 13 (d := d_cost_of) rfl
  obtain ⟨fd_least_cost, F_least_cost⟩ := c.def_ 14 (d := d_least_cost) rfl
  obtain ⟨fd_shows_best_plan, F_shows_best_plan⟩ := c.def_ 15 (d := d_shows_best_plan) rfl
  obtain ⟨fd__law_is_plan_right, F__law_is_plan_right⟩ := c.def_ 16 (d := d__law_is_plan_right) rfl
  obtain ⟨fd__law_short, F__law_short⟩ := c.def_ 17 (d := d__law_short) rfl
  obtain ⟨fd_look_at_storing, F_look_at_storing⟩ := c.def_ 18 (d := d_look_at_storing) rfl
  obtain ⟨fd_told_plan, F_told_plan⟩ := c.def_ 19 (d := d_told_plan) rfl
  obtain ⟨fd_told_short, F_told_short⟩ := c.def_ 20 (d := d_told_short) rfl
  obtain ⟨fd_least_room, F_least_room⟩ := c.def_ 21 (d := d_least_room) rfl
  obtain ⟨fd__law_is_room_right, F__law_is_room_right⟩ := c.def_ 22 (d := d__law_is_room_right) rfl
  obtain ⟨fd_does_store, F_does_store⟩ := c.def_ 23 (d := d_does_store) rfl
  obtain ⟨fd_how_much, F_how_much⟩ := c.def_ 24 (d := d_how_much) rfl
  obtain ⟨fd_is_told, F_is_told⟩ := c.def_ 25 (d := d_is_told) rfl
  obtain ⟨fd_shows_store, F_shows_store⟩ := c.def_ 26 (d := d_shows_store) rfl
  obtain ⟨fd_store, F_store⟩ := c.def_ 27 (d := d_store) rfl
  obtain ⟨fd__law_is_store_right, F__law_is_store_right⟩ := c.def_ 28 (d := d__law_is_store_right) rfl
  obtain ⟨fd__law_right, F__law_right⟩ := c.def_ 29 (d := d__law_right) rfl
  obtain ⟨fd_law, F_law⟩ := c.def_ 30 (d := d_law) rfl
  have e := hfa.symm.trans (He.glo_ok X G (c.fact 30 (f := .glo "law") rfl))
  cases e
  have g : Fr mg := ⟨He.free_ok X G (c.fact 31 (f := .free "abs") rfl), He.free_ok X G (c.fact 32 (f := .free "all") rfl), He.free_ok X G (c.fact 33 (f := .free "bool") rfl), He.free_ok X G (c.fact 34 (f := .free "enumerate") rfl), He.free_ok X G (c.fact 35 (f := .free "int") rfl), He.free_ok X G (c.fact 36 (f := .free "isinstance") rfl), He.free_ok X G (c.fact 37 (f := .free "len") rfl), He.free_ok X G (c.fact 38 (f := .free "list") rfl), He.free_ok X G (c.fact 39 (f := .free "max") rfl), He.free_ok X G (c.fact 40 (f := .free "min") rfl), He.free_ok X G (c.fact 41 (f := .free "range") rfl), He.free_ok X G (c.fact 42 (f := .free "sorted") rfl), He.free_ok X G (c.fact 43 (f := .free "str") rfl), He.free_ok X G (c.fact 44 (f := .free "sum") rfl), He.free_ok X G (c.fact 45 (f := .free "tuple") rfl), He.free_ok X G (c.fact 46 (f := .free "zip") rfl), He.str_ok X G (c.fact 47 (f := .str "CROWD" "crowd") rfl), He.int_ok X G (c.fact 48 (f := .int "MOST_AMOUNT" 1000000) rfl), He.int_ok X G (c.fact 49 (f := .int "MOST_ASKED" 10000) rfl), He.int_ok X G (c.fact 50 (f := .int "MOST_COST" 1000000) rfl), He.int_ok X G (c.fact 51 (f := .int "MOST_SEASONS_lots" 60) rfl), He.int_ok X G (c.fact 52 (f := .int "MOST_SEASONS_storing" 100) rfl), He.str_ok X G (c.fact 53 (f := .str "PLAN" "plan") rfl), He.int_ok X G (c.fact 54 (f := .int "THREE" 3) rfl)⟩
  refine ⟨fd_law, fun s v => FunD.bindsA (ps := ["script"]) F_law (fun _ _ _ _ _ _ us hl => match us, hl with | [_], _ => rfl) s [v] rfl, fun base _ _ => ?_⟩
  have C__law_cells : Fn P w K mg base 1 "_law_cells" m__law_cells := ok__law_cells g F__law_cells (He.glo_ok X G (c.fact 0 (f := .glo "_law_cells") rfl)) 
  have C__law_pot : Fn P w K mg base 1 "_law_pot" m__law_pot := ok__law_pot g F__law_pot (He.glo_ok X G (c.fact 1 (f := .glo "_law_pot") rfl)) 
  have C__law_cost : Fn P w K mg base 1 "_law_cost" m__law_cost := ok__law_cost g F__law_cost (He.glo_ok X G (c.fact 2 (f := .glo "_law_cost") rfl)) 
  have C__law_least : Fn P w K mg base 1 "_law_least" m__law_least := ok__law_least g F__law_least (He.glo_ok X G (c.fact 3 (f := .glo "_law_least") rfl)) 
  have C__law_take : Fn P w K mg base 1 "_law_take" m__law_take := ok__law_take g F__law_take (He.glo_ok X G (c.fact 4 (f := .glo "_law_take") rfl)) 
  have C__law_of : Fn P w K mg base 2 "_law_of" m__law_of := ok__law_of g F__law_of (He.glo_ok X G (c.fact 5 (f := .glo "_law_of") rfl)) C__law_take
  have C_is_int : Fn P w K mg base 1 "is_int" m_is_int := ok_is_int g F_is_int (He.glo_ok X G (c.fact 6 (f := .glo "is_int") rfl)) 
  have C_are_ints : Fn P w K mg base 2 "are_ints" m_are_ints := ok_are_ints g F_are_ints (He.glo_ok X G (c.fact 7 (f := .glo "are_ints") rfl)) C_is_int
  have C_look_at_lots : Fn P w K mg base 3 "look_at_lots" m_look_at_lots := ok_look_at_lots g F_look_at_lots (He.glo_ok X G (c.fact 8 (f := .glo "look_at_lots") rfl)) C_are_ints C_is_int
  have C_told_best : Fn P w K mg base 1 "told_best" m_told_best := ok_told_best g F_told_best (He.glo_ok X G (c.fact 9 (f := .glo "told_best") rfl)) 
  have C_best_plan : Fn P w K mg base 4 "best_plan" m_best_plan := ok_best_plan g F_best_plan (He.glo_ok X G (c.fact 10 (f := .glo "best_plan") rfl)) C_look_at_lots C_told_best
  have C_is_plan : Fn P w K mg base 3 "is_plan" m_is_plan := ok_is_plan g F_is_plan (He.glo_ok X G (c.fact 11 (f := .glo "is_plan") rfl)) C_are_ints
  have C_told_cost : Fn P w K mg base 1 "told_cost" m_told_cost := ok_told_cost g F_told_cost (He.glo_ok X G (c.fact 12 (f := .glo "told_cost") rfl)) 
  have C_cost_of : Fn P w K mg base 4 "cost_of" m_cost_of := ok_cost_of g F_cost_of (He.glo_ok X G (c.fact 13 (f := .glo "cost_of") rfl)) C_is_plan C_look_at_lots C_told_cost
  have C_least_cost : Fn P w K mg base 4 "least_cost" m_least_cost := ok_least_cost g F_least_cost (He.glo_ok X G (c.fact 14 (f := .glo "least_cost") rfl)) C_look_at_lots C_told_best C_told_cost
  have C_shows_best_plan : Fn P w K mg base 4 "shows_best_plan" m_shows_best_plan := ok_shows_best_plan g F_shows_best_plan (He.glo_ok X G (c.fact 15 (f := .glo "shows_best_plan") rfl)) C_is_plan C_look_at_lots C_told_best C_told_cost
  have C__law_is_plan_right : Fn P w K mg base 5 "_law_is_plan_right" m__law_is_plan_right := ok__law_is_plan_right g F__law_is_plan_right (He.glo_ok X G (c.fact 16 (f := .glo "_law_is_plan_right") rfl)) C__law_cost C__law_least C__law_of C__law_take C_best_plan C_cost_of C_least_cost C_shows_best_plan
  have C__law_short : Fn P w K mg base 1 "_law_short" m__law_short := ok__law_short g F__law_short (He.glo_ok X G (c.fact 17 (f := .glo "_law_short") rfl)) 
  have C_look_at_storing : Fn P w K mg base 3 "look_at_storing" m_look_at_storing := ok_look_at_storing g F_look_at_storing (He.glo_ok X G (c.fact 18 (f := .glo "look_at_storing") rfl)) C_are_ints C_is_int
  have C_told_plan : Fn P w K mg base 1 "told_plan" m_told_plan := ok_told_plan g F_told_plan (He.glo_ok X G (c.fact 19 (f := .glo "told_plan") rfl)) 
  have C_told_short : Fn P w K mg base 1 "told_short" m_told_short := ok_told_short g F_told_short (He.glo_ok X G (c.fact 20 (f := .glo "told_short") rfl)) 
  have C_least_room : Fn P w K mg base 4 "least_room" m_least_room := ok_least_room g F_least_room (He.glo_ok X G (c.fact 21 (f := .glo "least_room") rfl)) C_look_at_storing C_told_plan C_told_short
  have C__law_is_room_right : Fn P w K mg base 5 "_law_is_room_right" m__law_is_room_right := ok__law_is_room_right g F__law_is_room_right (He.glo_ok X G (c.fact 22 (f := .glo "_law_is_room_right") rfl)) C__law_short C__law_take C_least_room
  have C_does_store : Fn P w K mg base 3 "does_store" m_does_store := ok_does_store g F_does_store (He.glo_ok X G (c.fact 23 (f := .glo "does_store") rfl)) C_are_ints
  have C_how_much : Fn P w K mg base 1 "how_much" m_how_much := ok_how_much g F_how_much (He.glo_ok X G (c.fact 24 (f := .glo "how_much") rfl)) 
  have C_is_told : Fn P w K mg base 1 "is_told" m_is_told := ok_is_told g F_is_told (He.glo_ok X G (c.fact 25 (f := .glo "is_told") rfl)) 
  have C_shows_store : Fn P w K mg base 4 "shows_store" m_shows_store := ok_shows_store g F_shows_store (He.glo_ok X G (c.fact 26 (f := .glo "shows_store") rfl)) C_are_ints C_does_store C_how_much C_is_told C_look_at_storing
  have C_store : Fn P w K mg base 4 "store" m_store := ok_store g F_store (He.glo_ok X G (c.fact 27 (f := .glo "store") rfl)) C_look_at_storing C_told_plan C_told_short
  have C__law_is_store_right : Fn P w K mg base 5 "_law_is_store_right" m__law_is_store_right := ok__law_is_store_right g F__law_is_store_right (He.glo_ok X G (c.fact 28 (f := .glo "_law_is_store_right") rfl)) C__law_of C__law_short C__law_take C_shows_store C_store
  have C__law_right : Fn P w K mg base 6 "_law_right" m__law_right := ok__law_right g F__law_right (He.glo_ok X G (c.fact 29 (f := .glo "_law_right") rfl)) C__law_is_plan_right C__law_is_room_right C__law_is_store_right
  exact law_ok g F_law C__law_cells C__law_pot C__law_right
def loose : List Str := (["CellarError", "BadInt", "BadOrders", "BadPlan", "is_int", "are_ints", "is_told", "MOST_SEASONS_lots", "MOST_ASKED", "MOST_COST", "look_at_lots", "is_plan", "told_cost", "cost_of", "told_best", "best_plan", "least_cost", "shows_best_plan", "MOST_SEASONS_storing", "MOST_AMOUNT", "THREE", "PLAN", "CROWD", "look_at_storing", "told_short", "how_much", "store", "told_plan", "does_store", "shows_store"] : List Str) ++ (["least_room", "_law_pot", "_law_take", "_law_of", "_law_cells", "_law_least", "_law_cost", "_law_is_plan_right", "_law_short", "_law_is_store_right", "_law_is_room_right", "_law_right"] : List Str)
abbrev R : PySem.W.OpenRow := PySem.W.OpenLaw.row PySem.Challenge.rw_pouredastold_k25_whole_sixty_seasons_fil
abbrev hk : PySem.W.Hook := He.hookD 4 fal fnl
def ob (s : PySem.W.SharedT) : He.AlD := He.obsDG 4 fal fnl (HandSHeadRun.getT s)
theorem ob_eq (s : PySem.W.SharedT) : ob s = hk.obs s.abs := He.obsDG_eq (HandSHeadRun.getT_eq s)
theorem run (w : World) : HandSHeadRun.RunEq R (PySem.W.view R.prog [47]) hk ob 6000 loose w := by
  intro os
  kernel_rfl
end k25G
open PySem PySem.W PySem.Calls PyProof.Rows
theorem k25G_holds_of (hlaw : ∀ (ns : List Int) (d : Sm.DV), ns.length ≤ 63 → (d = .ro (ns.map Sm.PV.int) ∨ d = .fz (ns.map Sm.PV.int)) → ∃ ds', k25G.m_law [d] = some (.p (.bl true), ds')) : PySem.Challenge.rw_pouredastold_k25_whole_sixty_seasons_fil.Holds := by
  w_on; o_law
  refine HandSHeadRun.head_any (r := OpenLaw.row PySem.Challenge.rw_pouredastold_k25_whole_sixty_seasons_fil) (q := view (OpenLaw.row PySem.Challenge.rw_pouredastold_k25_whole_sixty_seasons_fil).prog [47]) (H := k25G.hk) (ob := k25G.ob) (M := 6000) (loose := k25G.loose) (d := HandSHeadRun.topDef (OpenLaw.row PySem.Challenge.rw_pouredastold_k25_whole_sixty_seasons_fil).prog 47) (kwd := []) k25G.ob_eq
    (by kernel_rfl) (fun s => by kernel_rfl) k25G.run (by kernel_rfl) (by kernel_rfl) (by kernel_rfl) (by rfl) (by first | assumption | decide +kernel) (by decide +kernel) ⟨rfl, rfl, rfl, rfl, rfl, by decide +kernel⟩ ?hw ?hc
  case hw => w_witness2
  case hc =>
    refine L2.walk_ofE (l := PySem.Challenge.rw_pouredastold_k25_whole_sixty_seasons_fil) (n := 63) (k := 7) (x := "script") (CX := L2.CX0) rfl (by decide) (by kernel_rfl) ⟨rfl, by decide, by decide⟩ ?F (fun _ _ _ _ z => z)
    intro w mg fa h Y G hmg0
    obtain ⟨K, KX, c⟩ := Y
    have hmg : mg ("law" : PySem.Str) = some (.ref fa) := by
      have e : (HandSHeadRun.topDef (OpenLaw.row PySem.Challenge.rw_pouredastold_k25_whole_sixty_seasons_fil).prog 47).name = ("law" : PySem.Str) := by kernel_rfl
      rw [← e]
      exact hmg0
    obtain ⟨fd, hb, hF⟩ := k25G.facts (P := (PySem.Challenge.rw_pouredastold_k25_whole_sixty_seasons_fil).prog) (w := w) KX G hmg c
    exact ⟨K, fd, Sm.spF K k25G.m_law, KX, hb, fun H a ns hl hO hS => Sm.sp_script hl hO hS (hlaw ns), hF⟩

set_option Elab.async false
set_option linter.all false
set_option maxRecDepth 100000
set_option maxHeartbeats 0
namespace k25G
open PySem PySem.Spec PyProof.Rows L2 Sm
/-! the drawing -/
def PotOk (n : Nat) (d : DV) : Prop := ∃ own a c : Int, d = .lst [.int own, .int a, .int c] ∧ 0 ≤ own ∧ 0 ≤ a ∧ a < 4611686018427387904 ∧ 0 ≤ c ∧ c ≤ n
theorem prime_ok (k : Int) : ∃ p : Int, atI [PV.int 2147483647, PV.int 2147483629, PV.int 2147483587, PV.int 2147483579, PV.int 2147483563] (k % 5) = some (.int p) ∧ 0 < p ∧ p < 4294967296 := by
  have h : k % 5 = 0 ∨ k % 5 = 1 ∨ k % 5 = 2 ∨ k % 5 = 3 ∨ k % 5 = 4 := by omega
  rcases h with h | h | h | h | h <;> rw [h, atI_pos _ (by decide)] <;> exact ⟨_, rfl, by decide, by decide⟩
theorem take_ok {n : Nat} {d : DV} {u : Int} (hp : PotOk n d) (hn : n ≤ 1000000000000) (h1 : 1 ≤ u) (h2 : u ≤ 1000000000000) : ∃ v d', m__law_take [d, .p (.int u)] = some (.p (.int v), [d', .p (.int u)]) ∧ 0 ≤ v ∧ v < u ∧ PotOk (n + 1) d' := by
  obtain ⟨own, a, c, rfl, ho, ha, ha2, hc, hcn⟩ := hp
  have hu : (0 : Int) < u := by omega
  have hl : u.natAbs.log2 < 9000 := log2_small (by omega) (by omega)
  by_cases h : 0 < own
  · simp [m__law_take, b__law_take, runF, modeOk, fin_cons, fin, startE, sSeq, sIf, sNext, sRet, sRetN, sDrop, sAsg, sSetI, sPar, gSets, gSet, gTup', gCons', gNil', DV.comps, tQ, tE, tNot', tAnd', tOr', qVar, qC, qOp, eOp, qUn, eUn, qMk, eMk, qIf, eIf, bQ, qAnd, qOr, qNot, qChain, DV.bool?, aNil, aCons, aeNil, aeCons, ofQ, eMove, g_zero, g_succ, DV.lend, DV.owned, DV.light, dIx_tup, dIx_lst, dIx_ro, dIx_fz, dIx_ml, dIx_mr, dIx_mt, dAdd_int, dSub_int, dNeg_int, dLt_int, dLe_int, dGt_int, dGe_int, dInt_int, dLen_tup, dLen_lst, dLen_ro, dLen_fz, mkT, mkL, pures, sAug, eAppend, isL, dAppend, dSetI, amQ, amE, eCallM, eCall, qCall, oNone, oSome, qSl, dSl_tup, dSl_lst, dSl_ro, dSl_fz, dTuple_lst, dTuple_ro, dTuple_tup, dList_lst, dList_ro, dList_tup, dMin2_int, dMax2_int, dAbs_int, dEq_int, dNe_int, sCnt, sBrk, sNever, atI_0, atI_1, atI_2, sizeLine_eq, Option.bind_some, Option.map_some, Option.bind_none, Option.map_none, List.length_cons, List.length_nil, List.set_cons_zero, List.set_cons_succ, List.getElem?_cons_zero, List.getElem?_cons_succ, List.map_cons, List.map_nil, List.cons_append, List.nil_append, List.replicate, dMod_int, dFdiv_int, h, hu, hl, ixN]
    exact ⟨_, _, ⟨rfl, rfl⟩, Int.emod_nonneg _ (by omega), Int.emod_lt_of_pos _ hu, _, _, _, rfl, Int.ediv_nonneg ho (by omega), ha, ha2, hc, by omega⟩
  · obtain ⟨p, e1, p1, p2⟩ := prime_ok (c + 1)
    have m1 : mulOk 95257 (c + 1) = true := mulOk_l (by decide) (by decide)
    have m2 : mulOk (95257 * (c + 1)) (c + 1) = true := mulOk_r (by omega) (by omega)
    have m3 : mulOk 419 (c + 1) = true := mulOk_l (by decide) (by decide)
    have m4 : ∀ z w : Int, mulOk (z % p) w = true := fun z w => mulOk_l (by have := Int.emod_nonneg z (show p ≠ 0 by omega); omega) (by have := Int.emod_lt_of_pos z p1; omega)
    have q1 : (Builtin.Int.intBits (a + 95257 * (c + 1) * (c + 1) + 3163) : Int) * 3 ≤ 134217728 := by
      have hb : 0 ≤ 95257 * (c + 1) * (c + 1) ∧ 95257 * (c + 1) * (c + 1) ≤ 95257 * 1000000000001 * 1000000000001 := by
        constructor
        · exact Int.mul_nonneg (by omega) (by omega)
        · exact Int.mul_le_mul (by omega) (by omega) (by omega) (by omega)
      have : Builtin.Int.intBits (a + 95257 * (c + 1) * (c + 1) + 3163) ≤ 199 + 1 := bits_le (by omega)
      omega
    simp [m__law_take, b__law_take, runF, modeOk, fin_cons, fin, startE, sSeq, sIf, sNext, sRet, sRetN, sDrop, sAsg, sSetI, sPar, gSets, gSet, gTup', gCons', gNil', DV.comps, tQ, tE, tNot', tAnd', tOr', qVar, qC, qOp, eOp, qUn, eUn, qMk, eMk, qIf, eIf, bQ, qAnd, qOr, qNot, qChain, DV.bool?, aNil, aCons, aeNil, aeCons, ofQ, eMove, g_zero, g_succ, DV.lend, DV.owned, DV.light, dIx_tup, dIx_lst, dIx_ro, dIx_fz, dIx_ml, dIx_mr, dIx_mt, dAdd_int, dSub_int, dNeg_int, dLt_int, dLe_int, dGt_int, dGe_int, dInt_int, dLen_tup, dLen_lst, dLen_ro, dLen_fz, mkT, mkL, pures, sAug, eAppend, isL, dAppend, dSetI, amQ, amE, eCallM, eCall, qCall, oNone, oSome, qSl, dSl_tup, dSl_lst, dSl_ro, dSl_fz, dTuple_lst, dTuple_ro, dTuple_tup, dList_lst, dList_ro, dList_tup, dMin2_int, dMax2_int, dAbs_int, dEq_int, dNe_int, sCnt, sBrk, sNever, atI_0, atI_1, atI_2, sizeLine_eq, Option.bind_some, Option.map_some, Option.bind_none, Option.map_none, List.length_cons, List.length_nil, List.set_cons_zero, List.set_cons_succ, List.getElem?_cons_zero, List.getElem?_cons_succ, List.map_cons, List.map_nil, List.cons_append, List.nil_append, List.replicate, dMod_int, dFdiv_int, dMul_int, dPow_int, h, hu, hl, ixN, e1, m1, m2, m3, m4, q1, p1, show Nat.log2 229 < 9000 from by decide +kernel]
    exact ⟨_, _, ⟨rfl, rfl⟩, Int.emod_nonneg _ (by omega), Int.emod_lt_of_pos _ hu, _, _, _, rfl, ho, ha, ha2, by omega, by omega⟩
end k25G

set_option Elab.async false
set_option linter.all false
set_option maxRecDepth 100000
set_option maxHeartbeats 0
namespace k25G
open PySem PySem.Spec PyProof.Rows L2 Sm
def IsScr (d : DV) (ns : List Int) : Prop := d = .ro (ns.map PV.int) ∨ d = .fz (ns.map PV.int)
theorem sum_1 (d : DV) (ns : List Int) (h : d = .lst (ns.map PV.int)) : dSumA [d] = some (.p (.int ns.sum)) := by subst h; exact dSumA_lst ns
theorem own_ok (x T2 T3 : Int) : mulOk ((x.natAbs : Int) % T2) (if T3 ≤ (x.natAbs : Int) then 1 else 0) = true := mulOk_r (by split <;> decide) (by split <;> decide)
theorem own_ge (x T2 T3 : Int) (h : 0 < T2) : 0 ≤ ((x.natAbs : Int) % T2) * (if T3 ≤ (x.natAbs : Int) then 1 else 0) := Int.mul_nonneg (Int.emod_nonneg _ (by omega)) (by split <;> decide)
theorem pot_tail (x k T2 T3 : Int) (h : 0 < T2) : ∃ d, PotOk 0 d ∧ d = .lst [.int (((x.natAbs : Int) % T2) * (if T3 ≤ (x.natAbs : Int) then 1 else 0)), .int ((x % 2305843009213693951 * 72161 + 10853 * k * k + 2843) % 2305843009213693921), .int 0] :=
  ⟨_, ⟨_, _, _, rfl, own_ge x T2 T3 h, Int.emod_nonneg _ (by decide), by have := Int.emod_lt_of_pos (x % 2305843009213693951 * 72161 + 10853 * k * k + 2843) (show (0 : Int) < 2305843009213693921 by decide); omega, by decide, by decide⟩, rfl⟩
theorem big_q : qOp dPow (qOp dPow (qC (.int 10)) (qC (.int 60))) (qC (.int 5)) = qC (.int (((10 : Int) ^ (60 : Int).toNat) ^ (5 : Int).toNat)) :=
  funext fun env => (op_q (op_q (g := dPow) (a := qC (.int 10)) (b := qC (.int 60)) (env := env) rfl rfl |>.trans (dPow_int (by decide) (by decide +kernel))) rfl).trans (dPow_int (by decide) (by decide +kernel))
theorem line_q : qOp dPow (qC (.int 10)) (qC (.int 18)) = qC (.int ((10 : Int) ^ (18 : Int).toNat)) :=
  funext fun env => (op_q rfl rfl).trans (dPow_int (by decide) (by decide +kernel))
theorem big_pos : (0 : Int) < ((10 : Int) ^ (60 : Int).toNat) ^ (5 : Int).toNat := by decide +kernel
/-- the cell drawn from the script -/
theorem cell_q {d : DV} {ns : List Int} {k : Int} (hd : IsScr d ns) (hk : 0 ≤ k) (hk2 : k ≤ 1000) (o2 o3 o4 : Option DV) : ∃ x : Int, (qIf (bQ (qOp dLt (qVar 1) (qMk dLen (aCons (qVar 0) (aNil))))) (qOp dIx (qVar 0) (qVar 1)) (qOp dAdd (qOp dAdd (qOp dMod (qMk dInt (aCons (qMk dSumA (aCons (qSl (qVar 0) (oNone) (oSome (qC (.int 1)))) (aNil))) (aNil))) (qC (.int 1000211))) (qOp dMul (qC (.int 4639)) (qVar 1))) (qC (.int 3163)))) [some d, some (.p (.int k)), o2, o3, o4] = some (.p (.int x)) := by
  have c4 : mulOk 4639 k = true := mulOk_l (by decide) (by decide)
  have hs : dSumA [DV.lst (cutL (ns.map PV.int) none (some 1))] = some (.p (.int (ns.take 1).sum)) := by
    rw [cutL_hi1, ← List.map_take]; exact dSumA_lst _
  by_cases h : k < (ns.length : Int)
  · have e1 : atI (ns.map PV.int) k = some (.int (ns[k.toNat]'(by omega))) := by
      rw [atI_pos _ hk, List.getElem?_map, List.getElem?_eq_getElem (by omega)]; rfl
    refine ⟨ns[k.toNat]'(by omega), ?_⟩
    rcases hd with rfl | rfl <;> simp [runF, modeOk, fin_cons, fin, startE, sSeq, sIf, sNext, sRet, sRetN, sDrop, sAsg, sSetI, sPar, gSets, gSet, gTup', gCons', gNil', DV.comps, tQ, tE, tNot', tAnd', tOr', qVar, qC, qOp, eOp, qUn, eUn, qMk, eMk, qIf, eIf, bQ, qAnd, qOr, qNot, qChain, DV.bool?, aNil, aCons, aeNil, aeCons, ofQ, eMove, g_zero, g_succ, DV.lend, DV.owned, DV.light, dIx_tup, dIx_lst, dIx_ro, dIx_fz, dIx_ml, dIx_mr, dIx_mt, dAdd_int, dSub_int, dNeg_int, dLt_int, dLe_int, dGt_int, dGe_int, dInt_int, dLen_tup, dLen_lst, dLen_ro, dLen_fz, mkT, mkL, pures, sAug, eAppend, isL, dAppend, dSetI, amQ, amE, eCallM, eCall, qCall, oNone, oSome, qSl, dSl_tup, dSl_lst, dSl_ro, dSl_fz, dTuple_lst, dTuple_ro, dTuple_tup, dList_lst, dList_ro, dList_tup, dMin2_int, dMax2_int, dAbs_int, dEq_int, dNe_int, sCnt, sBrk, sNever, atI_0, atI_1, atI_2, sizeLine_eq, Option.bind_some, Option.map_some, Option.bind_none, Option.map_none, List.length_cons, List.length_nil, List.set_cons_zero, List.set_cons_succ, List.getElem?_cons_zero, List.getElem?_cons_succ, List.map_cons, List.map_nil, List.cons_append, List.nil_append, List.replicate, h, e1, List.length_map]
  · refine ⟨(ns.take 1).sum % 1000211 + 4639 * k + 3163, ?_⟩
    rcases hd with rfl | rfl <;> simp [runF, modeOk, fin_cons, fin, startE, sSeq, sIf, sNext, sRet, sRetN, sDrop, sAsg, sSetI, sPar, gSets, gSet, gTup', gCons', gNil', DV.comps, tQ, tE, tNot', tAnd', tOr', qVar, qC, qOp, eOp, qUn, eUn, qMk, eMk, qIf, eIf, bQ, qAnd, qOr, qNot, qChain, DV.bool?, aNil, aCons, aeNil, aeCons, ofQ, eMove, g_zero, g_succ, DV.lend, DV.owned, DV.light, dIx_tup, dIx_lst, dIx_ro, dIx_fz, dIx_ml, dIx_mr, dIx_mt, dAdd_int, dSub_int, dNeg_int, dLt_int, dLe_int, dGt_int, dGe_int, dInt_int, dLen_tup, dLen_lst, dLen_ro, dLen_fz, mkT, mkL, pures, sAug, eAppend, isL, dAppend, dSetI, amQ, amE, eCallM, eCall, qCall, oNone, oSome, qSl, dSl_tup, dSl_lst, dSl_ro, dSl_fz, dTuple_lst, dTuple_ro, dTuple_tup, dList_lst, dList_ro, dList_tup, dMin2_int, dMax2_int, dAbs_int, dEq_int, dNe_int, sCnt, sBrk, sNever, atI_0, atI_1, atI_2, sizeLine_eq, Option.bind_some, Option.map_some, Option.bind_none, Option.map_none, List.length_cons, List.length_nil, List.set_cons_zero, List.set_cons_succ, List.getElem?_cons_zero, List.getElem?_cons_succ, List.map_cons, List.map_nil, List.cons_append, List.nil_append, List.replicate, dMod_int, dMul_int, h, hs, c4, List.length_map]
theorem abs_q (o0 o1 o3 o4 : Option DV) (x : Int) : (qMk dAbs (aCons (qVar 2) (aNil))) [o0, o1, some (.p (.int x)), o3, o4] = some (.p (.int (x.natAbs : Int))) := by simp [runF, modeOk, fin_cons, fin, startE, sSeq, sIf, sNext, sRet, sRetN, sDrop, sAsg, sSetI, sPar, gSets, gSet, gTup', gCons', gNil', DV.comps, tQ, tE, tNot', tAnd', tOr', qVar, qC, qOp, eOp, qUn, eUn, qMk, eMk, qIf, eIf, bQ, qAnd, qOr, qNot, qChain, DV.bool?, aNil, aCons, aeNil, aeCons, ofQ, eMove, g_zero, g_succ, DV.lend, DV.owned, DV.light, dIx_tup, dIx_lst, dIx_ro, dIx_fz, dIx_ml, dIx_mr, dIx_mt, dAdd_int, dSub_int, dNeg_int, dLt_int, dLe_int, dGt_int, dGe_int, dInt_int, dLen_tup, dLen_lst, dLen_ro, dLen_fz, mkT, mkL, pures, sAug, eAppend, isL, dAppend, dSetI, amQ, amE, eCallM, eCall, qCall, oNone, oSome, qSl, dSl_tup, dSl_lst, dSl_ro, dSl_fz, dTuple_lst, dTuple_ro, dTuple_tup, dList_lst, dList_ro, dList_tup, dMin2_int, dMax2_int, dAbs_int, dEq_int, dNe_int, sCnt, sBrk, sNever, atI_0, atI_1, atI_2, sizeLine_eq, Option.bind_some, Option.map_some, Option.bind_none, Option.map_none, List.length_cons, List.length_nil, List.set_cons_zero, List.set_cons_succ, List.getElem?_cons_zero, List.getElem?_cons_succ, List.map_cons, List.map_nil, List.cons_append, List.nil_append, List.replicate]
theorem own_q (o0 o1 o3 o4 : Option DV) (x T2 T3 : Int) (z : 0 < T2) : (qOp dMul (qOp dMod (qMk dInt (aCons (qMk dAbs (aCons (qVar 2) (aNil))) (aNil))) (qC (.int T2))) (qMk dInt (aCons (qOp dGe (qMk dAbs (aCons (qVar 2) (aNil))) (qC (.int T3))) (aNil)))) [o0, o1, some (.p (.int x)), o3, o4] = some (.p (.int (((x.natAbs : Int) % T2) * (if decide (T3 ≤ (x.natAbs : Int)) then 1 else 0)))) := by
  have a := abs_q o0 o1 o3 o4 x
  have e1 := (op_q (g := dMod) (mk_q (g := dInt) (a1_q a) |>.trans (dInt_int _)) (show qC (.int T2) [o0, o1, some (.p (.int x)), o3, o4] = _ from rfl)).trans (dMod_int z)
  have e2 := (mk_q (g := dInt) (a1_q ((op_q (g := dGe) a (show qC (.int T3) [o0, o1, some (.p (.int x)), o3, o4] = _ from rfl)).trans (dGe_int _ _)))).trans (dInt_bl _)
  exact (op_q e1 e2).trans (dMul_int (mulOk_r (by split <;> decide) (by split <;> decide)))
theorem pot_ok {d : DV} {ns : List Int} {k : Int} (hd : IsScr d ns) (hk : 0 ≤ k) (hk2 : k ≤ 1000) : ∃ d' r, m__law_pot [d, .p (.int k)] = some (d', r) ∧ PotOk 0 d' := by
  have c1 : ∀ z : Int, mulOk (z % 2305843009213693951) 72161 = true := fun z => mulOk_r (by decide) (by decide)
  have c2 : mulOk 10853 k = true := mulOk_l (by decide) (by decide)
  have c3 : mulOk (10853 * k) k = true := mulOk_r (by omega) (by omega)
  obtain ⟨x, hx⟩ := cell_q hd hk hk2 none none none
  have hl : d.light = true := by rcases hd with rfl | rfl <;> rfl
  have hm : modeOk [false, false] [d, .p (.int k)] = true := by simp [modeOk, hl, DV.light]
  have ho := own_ge x (((10 : Int) ^ (60 : Int).toNat) ^ (5 : Int).toNat) ((10 : Int) ^ (18 : Int).toNat) big_pos
  have hq := own_q (some d) (some (.p (.int k))) none none x (((10 : Int) ^ (60 : Int).toNat) ^ (5 : Int).toNat) ((10 : Int) ^ (18 : Int).toNat) big_pos
  refine ⟨.lst [.int (((x.natAbs : Int) % ((10 : Int) ^ (60 : Int).toNat) ^ (5 : Int).toNat) * (if decide ((10 : Int) ^ (18 : Int).toNat ≤ (x.natAbs : Int)) then 1 else 0)), .int ((x % 2305843009213693951 * 72161 + 10853 * k * k + 2843) % 2305843009213693921), .int 0], [d, .p (.int k)], run_rt (e := [some d, some (.p (.int k)), some (.p (.int x)), some (.p (.int (((x.natAbs : Int) % ((10 : Int) ^ (60 : Int).toNat) ^ (5 : Int).toNat) * (if decide ((10 : Int) ^ (18 : Int).toNat ≤ (x.natAbs : Int)) then 1 else 0)))), some (.p (.int (x % 2305843009213693951)))]) hm ((seq_nx (asg_q hx rfl (by simp))).trans ?_) rfl, ?_⟩
  · rw [big_q, line_q]
    refine (seq_nx (asg_q hq rfl (by simp))).trans ?_
    generalize ((x.natAbs : Int) % ((10 : Int) ^ (60 : Int).toNat) ^ (5 : Int).toNat) * (if decide ((10 : Int) ^ (18 : Int).toNat ≤ (x.natAbs : Int)) then 1 else 0) = own
    simp [runF, modeOk, fin_cons, fin, startE, sSeq, sIf, sNext, sRet, sRetN, sDrop, sAsg, sSetI, sPar, gSets, gSet, gTup', gCons', gNil', DV.comps, tQ, tE, tNot', tAnd', tOr', qVar, qC, qOp, eOp, qUn, eUn, qMk, eMk, qIf, eIf, bQ, qAnd, qOr, qNot, qChain, DV.bool?, aNil, aCons, aeNil, aeCons, ofQ, eMove, g_zero, g_succ, DV.lend, DV.owned, DV.light, dIx_tup, dIx_lst, dIx_ro, dIx_fz, dIx_ml, dIx_mr, dIx_mt, dAdd_int, dSub_int, dNeg_int, dLt_int, dLe_int, dGt_int, dGe_int, dInt_int, dLen_tup, dLen_lst, dLen_ro, dLen_fz, mkT, mkL, pures, sAug, eAppend, isL, dAppend, dSetI, amQ, amE, eCallM, eCall, qCall, oNone, oSome, qSl, dSl_tup, dSl_lst, dSl_ro, dSl_fz, dTuple_lst, dTuple_ro, dTuple_tup, dList_lst, dList_ro, dList_tup, dMin2_int, dMax2_int, dAbs_int, dEq_int, dNe_int, sCnt, sBrk, sNever, atI_0, atI_1, atI_2, sizeLine_eq, Option.bind_some, Option.map_some, Option.bind_none, Option.map_none, List.length_cons, List.length_nil, List.set_cons_zero, List.set_cons_succ, List.getElem?_cons_zero, List.getElem?_cons_succ, List.map_cons, List.map_nil, List.cons_append, List.nil_append, List.replicate, dMod_int, dMul_int, c1, c2, c3]
  · refine ⟨_, _, _, rfl, ?_, Int.emod_nonneg _ (by decide), by have := Int.emod_lt_of_pos (x % 2305843009213693951 * 72161 + 10853 * k * k + 2843) (show (0 : Int) < 2305843009213693921 by decide); omega, by decide, by decide⟩
    refine Int.mul_nonneg (Int.emod_nonneg _ (by have := big_pos; omega)) (by split <;> decide)
theorem cells_ok {d : DV} {ns : List Int} {m : Int} (hd : IsScr d ns) (hl : ns.length ≤ 63) (hm : 0 ≤ m) (hm2 : m ≤ 1000) : ∃ n : Nat, n ≤ 1000 ∧ m__law_cells [d, .p (.int m)] = some (.lst ((List.range n).map fun i : Nat => PV.int (i : Int)), [d, .p (.int m)]) := by
  refine ⟨(max 1 (min m ns.length)).toNat, by omega, ?_⟩
  have e : rgOk 0 (max 1 (min m ns.length)) = true := rgOk_of (by omega) (by omega)
  have e2 : rgP 0 (max 1 (min m ns.length)) = (List.range (max 1 (min m (ns.length : Int))).toNat).map fun i : Nat => PV.int (i : Int) := by
    simp [rgP]
  rcases hd with rfl | rfl <;> simp [m__law_cells, b__law_cells, runF, modeOk, fin_cons, fin, startE, sSeq, sIf, sNext, sRet, sRetN, sDrop, sAsg, sSetI, sPar, gSets, gSet, gTup', gCons', gNil', DV.comps, tQ, tE, tNot', tAnd', tOr', qVar, qC, qOp, eOp, qUn, eUn, qMk, eMk, qIf, eIf, bQ, qAnd, qOr, qNot, qChain, DV.bool?, aNil, aCons, aeNil, aeCons, ofQ, eMove, g_zero, g_succ, DV.lend, DV.owned, DV.light, dIx_tup, dIx_lst, dIx_ro, dIx_fz, dIx_ml, dIx_mr, dIx_mt, dAdd_int, dSub_int, dNeg_int, dLt_int, dLe_int, dGt_int, dGe_int, dInt_int, dLen_tup, dLen_lst, dLen_ro, dLen_fz, mkT, mkL, pures, sAug, eAppend, isL, dAppend, dSetI, amQ, amE, eCallM, eCall, qCall, oNone, oSome, qSl, dSl_tup, dSl_lst, dSl_ro, dSl_fz, dTuple_lst, dTuple_ro, dTuple_tup, dList_lst, dList_ro, dList_tup, dMin2_int, dMax2_int, dAbs_int, dEq_int, dNe_int, sCnt, sBrk, sNever, atI_0, atI_1, atI_2, sizeLine_eq, Option.bind_some, Option.map_some, Option.bind_none, Option.map_none, List.length_cons, List.length_nil, List.set_cons_zero, List.set_cons_succ, List.getElem?_cons_zero, List.getElem?_cons_succ, List.map_cons, List.map_nil, List.cons_append, List.nil_append, List.replicate, qLr1, e, e2, List.length_map]
/-- the law, by its cells -/
theorem law_of (hr : ∀ d, PotOk 0 d → ∃ r, m__law_right [d] = some (.p (.bl true), r)) (ns : List Int) (d : DV) (hl : ns.length ≤ 63) (hd : d = .ro (ns.map PV.int) ∨ d = .fz (ns.map PV.int)) : ∃ ds', m_law [d] = some (.p (.bl true), ds') := by
  obtain ⟨n, hn, hc⟩ := cells_ok (m := 3) hd hl (by decide) (by decide)
  have main : ∀ e : En, e = [some d, none] → qCompL [1] (fSeqQ (qCall m__law_cells (aCons (qVar 0) (aCons (qC (.int 3)) (aNil))))) (gSet 1) (cYesQ) (qCall m__law_right (aCons (qCall m__law_pot (aCons (qVar 0) (aCons (qVar 1) (aNil)))) (aNil))) e = some (.lst (((List.range n).map fun _ => true).map PV.bl)) := by
    rintro e rfl
    have hlend : d.lend = d := by rcases hd with rfl | rfl <;> rfl
    rw [List.map_map]
    refine qCompL_all (α := Nat) (fun i => .p (.int (i : Int))) (fun _ => .bl true) (xs := List.range n) ?_ (by rw [List.length_range]; exact le_size (by omega)) fun i hi => ?_
    · simp [runF, modeOk, fin_cons, fin, startE, sSeq, sIf, sNext, sRet, sRetN, sDrop, sAsg, sSetI, sPar, gSets, gSet, gTup', gCons', gNil', DV.comps, tQ, tE, tNot', tAnd', tOr', qVar, qC, qOp, eOp, qUn, eUn, qMk, eMk, qIf, eIf, bQ, qAnd, qOr, qNot, qChain, DV.bool?, aNil, aCons, aeNil, aeCons, ofQ, eMove, g_zero, g_succ, DV.lend, DV.owned, DV.light, dIx_tup, dIx_lst, dIx_ro, dIx_fz, dIx_ml, dIx_mr, dIx_mt, dAdd_int, dSub_int, dNeg_int, dLt_int, dLe_int, dGt_int, dGe_int, dInt_int, dLen_tup, dLen_lst, dLen_ro, dLen_fz, mkT, mkL, pures, sAug, eAppend, isL, dAppend, dSetI, amQ, amE, eCallM, eCall, qCall, oNone, oSome, qSl, dSl_tup, dSl_lst, dSl_ro, dSl_fz, dTuple_lst, dTuple_ro, dTuple_tup, dList_lst, dList_ro, dList_tup, dMin2_int, dMax2_int, dAbs_int, dEq_int, dNe_int, sCnt, sBrk, sNever, atI_0, atI_1, atI_2, sizeLine_eq, Option.bind_some, Option.map_some, Option.bind_none, Option.map_none, List.length_cons, List.length_nil, List.set_cons_zero, List.set_cons_succ, List.getElem?_cons_zero, List.getElem?_cons_succ, List.map_cons, List.map_nil, List.cons_append, List.nil_append, List.replicate, fSeqQ, hlend, hc, DV.itm]
    · have hi : i < n := by simpa using hi
      obtain ⟨d', r, h1, h2⟩ := pot_ok (k := (i : Int)) hd (by omega) (by omega)
      obtain ⟨r', h3⟩ := hr d' h2
      refine ⟨[some d, some (.p (.int (i : Int)))], ?_, rfl, ?_⟩
      · simp [runF, modeOk, fin_cons, fin, startE, sSeq, sIf, sNext, sRet, sRetN, sDrop, sAsg, sSetI, sPar, gSets, gSet, gTup', gCons', gNil', DV.comps, tQ, tE, tNot', tAnd', tOr', qVar, qC, qOp, eOp, qUn, eUn, qMk, eMk, qIf, eIf, bQ, qAnd, qOr, qNot, qChain, DV.bool?, aNil, aCons, aeNil, aeCons, ofQ, eMove, g_zero, g_succ, DV.lend, DV.owned, DV.light, dIx_tup, dIx_lst, dIx_ro, dIx_fz, dIx_ml, dIx_mr, dIx_mt, dAdd_int, dSub_int, dNeg_int, dLt_int, dLe_int, dGt_int, dGe_int, dInt_int, dLen_tup, dLen_lst, dLen_ro, dLen_fz, mkT, mkL, pures, sAug, eAppend, isL, dAppend, dSetI, amQ, amE, eCallM, eCall, qCall, oNone, oSome, qSl, dSl_tup, dSl_lst, dSl_ro, dSl_fz, dTuple_lst, dTuple_ro, dTuple_tup, dList_lst, dList_ro, dList_tup, dMin2_int, dMax2_int, dAbs_int, dEq_int, dNe_int, sCnt, sBrk, sNever, atI_0, atI_1, atI_2, sizeLine_eq, Option.bind_some, Option.map_some, Option.bind_none, Option.map_none, List.length_cons, List.length_nil, List.set_cons_zero, List.set_cons_succ, List.getElem?_cons_zero, List.getElem?_cons_succ, List.map_cons, List.map_nil, List.cons_append, List.nil_append, List.replicate, wipeE, lendE, hlend]
      · simp [runF, modeOk, fin_cons, fin, startE, sSeq, sIf, sNext, sRet, sRetN, sDrop, sAsg, sSetI, sPar, gSets, gSet, gTup', gCons', gNil', DV.comps, tQ, tE, tNot', tAnd', tOr', qVar, qC, qOp, eOp, qUn, eUn, qMk, eMk, qIf, eIf, bQ, qAnd, qOr, qNot, qChain, DV.bool?, aNil, aCons, aeNil, aeCons, ofQ, eMove, g_zero, g_succ, DV.lend, DV.owned, DV.light, dIx_tup, dIx_lst, dIx_ro, dIx_fz, dIx_ml, dIx_mr, dIx_mt, dAdd_int, dSub_int, dNeg_int, dLt_int, dLe_int, dGt_int, dGe_int, dInt_int, dLen_tup, dLen_lst, dLen_ro, dLen_fz, mkT, mkL, pures, sAug, eAppend, isL, dAppend, dSetI, amQ, amE, eCallM, eCall, qCall, oNone, oSome, qSl, dSl_tup, dSl_lst, dSl_ro, dSl_fz, dTuple_lst, dTuple_ro, dTuple_tup, dList_lst, dList_ro, dList_tup, dMin2_int, dMax2_int, dAbs_int, dEq_int, dNe_int, sCnt, sBrk, sNever, atI_0, atI_1, atI_2, sizeLine_eq, Option.bind_some, Option.map_some, Option.bind_none, Option.map_none, List.length_cons, List.length_nil, List.set_cons_zero, List.set_cons_succ, List.getElem?_cons_zero, List.getElem?_cons_succ, List.map_cons, List.map_nil, List.cons_append, List.nil_append, List.replicate, hlend, h1, h3]
  have hall : dAll [DV.lst (((List.range n).map fun _ => true).map PV.bl)] = some (.p (.bl true)) := by rw [dAll_lst]; simp
  have hlend : d.light = true := by rcases hd with rfl | rfl <;> rfl
  refine ⟨[d], ?_⟩
  simp only [m_law, b_law, runF, modeOk, hlend, startE, sRet, ofQ, qMk, aCons, aNil, List.map_cons, List.map_nil, List.length_cons, List.length_nil, List.replicate, List.cons_append, List.nil_append, main _ rfl, Option.bind_some, Option.map_some, hall, DV.owned, fin_cons, fin]
  rfl
end k25G

set_option Elab.async false
set_option linter.all false
set_option maxRecDepth 100000
set_option maxHeartbeats 0
namespace k25G
open PySem PySem.Spec PyProof.Rows L2 Sm
/-! draws, as the names see them -/
theorem PotOk.mono {n m : Nat} {d : DV} (h : PotOk n d) (l : n ≤ m) : PotOk m d := by
  obtain ⟨a, b, c, e, h1, h2, h3, h4, h5⟩ := h
  exact ⟨a, b, c, e, h1, h2, h3, h4, by omega⟩
theorem PotOk.own {n : Nat} {d : DV} (h : PotOk n d) : d.owned = true := by
  obtain ⟨a, b, c, rfl, _⟩ := h
  rfl
theorem take_e {n : Nat} {pot : DV} {u : Int} {e : En} {q : En → Option DV} (hp : PotOk n pot) (hn : n ≤ 1000000000000) (h1 : 1 ≤ u) (h2 : u ≤ 1000000000000) (he : e.g 0 = some pot) (hq : q (e.set 0 none) = some (.p (.int u))) :
    ∃ v pot', eCallM m__law_take 0 (amQ 0 (aCons q (aNil))) e = some (.p (.int v), e.set 0 (some pot')) ∧ 0 ≤ v ∧ v < u ∧ PotOk (n + 1) pot' := by
  obtain ⟨v, pot', t1, t2, t3, t4⟩ := take_ok hp hn h1 h2
  refine ⟨v, pot', ?_, t2, t3, t4⟩
  simp [eCallM, amQ, he, hp.own, aCons, aNil, hq, t1, t4.own]
theorem of_ok {n : Nat} {pot : DV} {x y : Int} (hp : PotOk n pot) (hn : n ≤ 1000000000000) : ∃ v pot' r, m__law_of [pot, .ro [.int x, .int y]] = some (.p (.int v), [pot', r]) ∧ (v = x ∨ v = y) ∧ PotOk (n + 1) pot' := by
  obtain ⟨v, pot', t1, t2, t3, t4⟩ := take_e (q := qMk dLen (aCons (qVar 1) (aNil))) (e := [some pot, some (.ro [.int x, .int y])]) hp hn (u := 2) (by decide) (by decide) rfl rfl
  have hv : v = 0 ∨ v = 1 := by omega
  have hb : ∀ z : Int, (v = 0 ∧ z = x) ∨ (v = 1 ∧ z = y) → atI [PV.int x, PV.int y] v = some (.int z) := by
    rintro z (⟨rfl, rfl⟩ | ⟨rfl, rfl⟩) <;> simp [runF, modeOk, fin_cons, fin, startE, sSeq, sIf, sNext, sRet, sRetN, sDrop, sAsg, sSetI, sPar, gSets, gSet, gTup', gCons', gNil', DV.comps, tQ, tE, tNot', tAnd', tOr', qVar, qC, qOp, eOp, qUn, eUn, qMk, eMk, qIf, eIf, bQ, qAnd, qOr, qNot, qChain, DV.bool?, aNil, aCons, aeNil, aeCons, ofQ, eMove, g_zero, g_succ, DV.lend, DV.owned, DV.light, dIx_tup, dIx_lst, dIx_ro, dIx_fz, dIx_ml, dIx_mr, dIx_mt, dAdd_int, dSub_int, dNeg_int, dLt_int, dLe_int, dGt_int, dGe_int, dInt_int, dLen_tup, dLen_lst, dLen_ro, dLen_fz, mkT, mkL, pures, sAug, eAppend, isL, dAppend, dSetI, amQ, amE, eCallM, eCall, qCall, oNone, oSome, qSl, dSl_tup, dSl_lst, dSl_ro, dSl_fz, dTuple_lst, dTuple_ro, dTuple_tup, dList_lst, dList_ro, dList_tup, dMin2_int, dMax2_int, dAbs_int, dEq_int, dNe_int, sCnt, sBrk, sNever, atI_0, atI_1, atI_2, sizeLine_eq, Option.bind_some, Option.map_some, Option.bind_none, Option.map_none, List.length_cons, List.length_nil, List.set_cons_zero, List.set_cons_succ, List.getElem?_cons_zero, List.getElem?_cons_succ, List.map_cons, List.map_nil, List.cons_append, List.nil_append, List.replicate]
  simp only [List.set_cons_zero] at t1
  rcases hv with hv | hv
  · refine ⟨x, pot', .ro [.int x, .int y], run_rt (e := [some pot', some (.ro [.int x, .int y])]) (by simp [modeOk, DV.light]) ?_ rfl, .inl rfl, t4⟩
    refine ret_e ?_
    simp only [startE, List.map_cons, List.map_nil, List.length_cons, List.length_nil, List.replicate, List.append_nil, Nat.sub_self, eIxN, t1]
    simp [runF, modeOk, fin_cons, fin, startE, sSeq, sIf, sNext, sRet, sRetN, sDrop, sAsg, sSetI, sPar, gSets, gSet, gTup', gCons', gNil', DV.comps, tQ, tE, tNot', tAnd', tOr', qVar, qC, qOp, eOp, qUn, eUn, qMk, eMk, qIf, eIf, bQ, qAnd, qOr, qNot, qChain, DV.bool?, aNil, aCons, aeNil, aeCons, ofQ, eMove, g_zero, g_succ, DV.lend, DV.owned, DV.light, dIx_tup, dIx_lst, dIx_ro, dIx_fz, dIx_ml, dIx_mr, dIx_mt, dAdd_int, dSub_int, dNeg_int, dLt_int, dLe_int, dGt_int, dGe_int, dInt_int, dLen_tup, dLen_lst, dLen_ro, dLen_fz, mkT, mkL, pures, sAug, eAppend, isL, dAppend, dSetI, amQ, amE, eCallM, eCall, qCall, oNone, oSome, qSl, dSl_tup, dSl_lst, dSl_ro, dSl_fz, dTuple_lst, dTuple_ro, dTuple_tup, dList_lst, dList_ro, dList_tup, dMin2_int, dMax2_int, dAbs_int, dEq_int, dNe_int, sCnt, sBrk, sNever, atI_0, atI_1, atI_2, sizeLine_eq, Option.bind_some, Option.map_some, Option.bind_none, Option.map_none, List.length_cons, List.length_nil, List.set_cons_zero, List.set_cons_succ, List.getElem?_cons_zero, List.getElem?_cons_succ, List.map_cons, List.map_nil, List.cons_append, List.nil_append, List.replicate, hb x (.inl ⟨hv, rfl⟩)]
  · refine ⟨y, pot', .ro [.int x, .int y], run_rt (e := [some pot', some (.ro [.int x, .int y])]) (by simp [modeOk, DV.light]) ?_ rfl, .inr rfl, t4⟩
    refine ret_e ?_
    simp only [startE, List.map_cons, List.map_nil, List.length_cons, List.length_nil, List.replicate, List.append_nil, Nat.sub_self, eIxN, t1]
    simp [runF, modeOk, fin_cons, fin, startE, sSeq, sIf, sNext, sRet, sRetN, sDrop, sAsg, sSetI, sPar, gSets, gSet, gTup', gCons', gNil', DV.comps, tQ, tE, tNot', tAnd', tOr', qVar, qC, qOp, eOp, qUn, eUn, qMk, eMk, qIf, eIf, bQ, qAnd, qOr, qNot, qChain, DV.bool?, aNil, aCons, aeNil, aeCons, ofQ, eMove, g_zero, g_succ, DV.lend, DV.owned, DV.light, dIx_tup, dIx_lst, dIx_ro, dIx_fz, dIx_ml, dIx_mr, dIx_mt, dAdd_int, dSub_int, dNeg_int, dLt_int, dLe_int, dGt_int, dGe_int, dInt_int, dLen_tup, dLen_lst, dLen_ro, dLen_fz, mkT, mkL, pures, sAug, eAppend, isL, dAppend, dSetI, amQ, amE, eCallM, eCall, qCall, oNone, oSome, qSl, dSl_tup, dSl_lst, dSl_ro, dSl_fz, dTuple_lst, dTuple_ro, dTuple_tup, dList_lst, dList_ro, dList_tup, dMin2_int, dMax2_int, dAbs_int, dEq_int, dNe_int, sCnt, sBrk, sNever, atI_0, atI_1, atI_2, sizeLine_eq, Option.bind_some, Option.map_some, Option.bind_none, Option.map_none, List.length_cons, List.length_nil, List.set_cons_zero, List.set_cons_succ, List.getElem?_cons_zero, List.getElem?_cons_succ, List.map_cons, List.map_nil, List.cons_append, List.nil_append, List.replicate, hb y (.inr ⟨hv, rfl⟩)]
/-- take(pot, of(pot, [x, y])) -/
theorem take_of {n : Nat} {pot : DV} {x y m : Int} {e : En} {q : En → Option DV} (hp : PotOk n pot) (hn : n ≤ 100000000000) (hx : 1 ≤ x) (hy : 1 ≤ y) (hxm : x ≤ m) (hym : y ≤ m) (hm : m ≤ 1000000000000) (hl : 0 < e.length) (he : e.g 0 = some pot) (hq : q (e.set 0 none) = some (.lst [.int x, .int y])) :
    ∃ v pot', eCallM m__law_take 0 (amE (eCallML m__law_of 0 (amQ 0 (aCons q (aNil)))) (amQ 0 (aNil))) e = some (.p (.int v), e.set 0 (some pot')) ∧ 0 ≤ v ∧ v < m ∧ PotOk (n + 2) pot' := by
  obtain ⟨u, pot1, r, a1, a2, a3⟩ := of_ok (x := x) (y := y) hp (by omega)
  have hu : 1 ≤ u ∧ u ≤ m := by rcases a2 with rfl | rfl <;> omega
  obtain ⟨v, pot2, t1, t2, t3, t4⟩ := take_ok a3 (by omega) hu.1 (by omega)
  refine ⟨v, pot2, ?_, t2, by omega, t4⟩
  have g1 : En.g (e.set 0 (some pot1)) 0 = some pot1 := by
    unfold En.g; rw [List.getElem?_set_self hl]
  simp [eCallM, eCallML, amE, amQ, he, hp.own, aCons, aNil, hq, a1, a3.own, DV.lends, DV.lend, g1, t1, t4.own]
theorem compE_take {i : Nat} {q : En → Option DV} {u : Int} (base : En) (h0 : 0 < i) (hi : i < base.length) (hb : base.set i none = base) (hq : ∀ d, q ((base.set i (some d)).set 0 none) = some (.p (.int u))) (h1 : 1 ≤ u) (h2 : u ≤ 1000000000000) :
    ∀ (ds : List DV) (n : Nat) (pot : DV), PotOk n pot → n + ds.length ≤ 1000000000000 → ∃ (vs : List Int) (pot' : DV), vs.length = ds.length ∧ (∀ v ∈ vs, 0 ≤ v ∧ v < u) ∧ PotOk (n + ds.length) pot' ∧
      compE [i] (gSet i) cYes (eMk dInt (aeCons (eCallM m__law_take 0 (amQ 0 (aCons q (aNil)))) (aeNil))) ds (base.set 0 (some pot)) = some (vs.map fun v => .p (.int v), base.set 0 (some pot')) := by
  have h0l : 0 < base.length := by omega
  have hw : ∀ p, wipeE (base.set 0 (some p)) [i] = base.set 0 (some p) := fun p => by
    show ((base.set 0 (some p)).set i none) = _
    rw [List.set_comm _ _ (by omega), hb]
  intro ds
  induction ds with
  | nil => intro n pot hp _; exact ⟨[], pot, rfl, by simp, hp, by simp [compE]⟩
  | cons d ds ih =>
    intro n pot hp hn
    have hg : En.g ((base.set 0 (some pot)).set i (some d)) 0 = some pot := by
      unfold En.g; rw [List.getElem?_set_ne (by omega), List.getElem?_set_self h0l]
    obtain ⟨v, pot1, t1, t2, t3, t4⟩ := take_e (q := q) (e := (base.set 0 (some pot)).set i (some d)) hp (by omega) h1 h2 hg (by
      rw [List.set_comm _ _ (show i ≠ 0 by omega), List.set_set, ← List.set_comm _ _ (show i ≠ 0 by omega)]; exact hq d)
    obtain ⟨vs, pot2, b1, b2, b3, b4⟩ := ih (n + 1) pot1 t4 (by simp at hn; omega)
    refine ⟨v :: vs, pot2, by simp [b1], ?_, by rw [List.length_cons, show n + (ds.length + 1) = n + 1 + ds.length by omega]; exact b3, ?_⟩
    · intro z hz
      rcases List.mem_cons.mp hz with rfl | hz
      · exact ⟨t2, t3⟩
      · exact b2 z hz
    · have ew : wipeE (((base.set 0 (some pot)).set i (some d)).set 0 (some pot1)) [i] = base.set 0 (some pot1) := by
        rw [List.set_comm _ _ (show i ≠ 0 by omega), List.set_set]
        show ((base.set 0 (some pot1)).set i (some d)).set i none = _
        rw [List.set_set, List.set_comm _ _ (show 0 ≠ i by omega), hb]
      simp only [compE, hw]
      have hs : gSet i d (base.set 0 (some pot)) = some ((base.set 0 (some pot)).set i (some d)) := by simp [gSet, hi]
      simp only [hs, List.length_set, if_true, cYes, eMk, aeCons, aeNil, t1, Option.bind_some, Option.map_some, dInt_int, ew, b4, List.map_cons]
theorem for_nx {f : En → Option (List DV × En)} {t : DV → En → Option En} {b c : Bk} {env e e' : En} {ds : List DV} (h2 : forL t b ds e = some (.nx e')) (h1 : f env = some (ds, e)) : sSeq (sFor f t b) c env = c e' := seq_nx ((for_e h1).trans h2)
end k25G

set_option linter.all false
/-! k25: the plain law of lots and of storing; no program in sight. -/
namespace k25M
def kp : List Int → Int
  | [] => 0
  | _ :: xs => kp xs + xs.sum
def cc (f k : Int) (xs : List Int) : Int := (if 0 < xs.sum then f else 0) + k * kp xs
def seg (as : List Int) (b e : Nat) : List Int := (as.take e).drop b
theorem seg_self (as : List Int) (b : Nat) : seg as b b = [] := by
  unfold seg
  exact List.drop_eq_nil_of_le (by simp; omega)
theorem seg_succ {as : List Int} {b e : Nat} (hb : b ≤ e) (he : e < as.length) : seg as b (e + 1) = seg as b e ++ [as[e]] := by
  unfold seg
  rw [List.take_add_one, List.getElem?_eq_getElem he]
  rw [List.drop_append_of_le_length (by simp; omega)]
  rfl
theorem seg_drop {as : List Int} {b e : Nat} (hb : b ≤ e) : as.drop b = seg as b e ++ as.drop e := by
  unfold seg
  conv => lhs; rw [← List.take_append_drop e as]
  by_cases h : e ≤ as.length
  · rw [List.drop_append_of_le_length (by simp; omega)]
  · rw [List.drop_eq_nil_of_le (show as.length ≤ e by omega)]
    simp
theorem seg_length {as : List Int} {b e : Nat} (he : e ≤ as.length) : (seg as b e).length = e - b := by
  unfold seg; simp; omega
def nn (xs : List Int) : Prop := ∀ x ∈ xs, 0 ≤ x
theorem nn.sum {xs : List Int} (h : nn xs) : 0 ≤ xs.sum := by
  induction xs with
  | nil => simp
  | cons x xs ih =>
    have := h x (by simp)
    have := ih fun y q => h y (by simp [q])
    simp; omega
theorem nn.kp {xs : List Int} (h : nn xs) : 0 ≤ kp xs := by
  induction xs with
  | nil => simp [k25M.kp]
  | cons x xs ih =>
    have h' : nn xs := fun y q => h y (by simp [q])
    have := ih h'
    have := h'.sum
    simp [k25M.kp]; omega
theorem nn.seg {as : List Int} (h : nn as) (b e : Nat) : nn (seg as b e) := fun x q => h x (List.mem_of_mem_take (List.mem_of_mem_drop q))
theorem kp_snoc (xs : List Int) (a : Int) : kp (xs ++ [a]) = kp xs + xs.length * a := by
  induction xs with
  | nil => simp [kp]
  | cons x xs ih =>
    simp only [List.cons_append, kp, ih, List.sum_append, List.length_cons, List.sum_cons, List.sum_nil, Int.add_zero]
    have : ((xs.length + 1 : Nat) : Int) * a = xs.length * a + a := by rw [Int.natCast_add, Int.add_mul]; simp
    rw [this]; omega
theorem cc_mono {f k : Int} (hf : 0 ≤ f) (hk : 0 ≤ k) {xs : List Int} {a : Int} (hx : nn xs) (ha : 0 ≤ a) : cc f k xs ≤ cc f k (xs ++ [a]) := by
  unfold cc
  rw [kp_snoc]
  have h1 : k * kp xs ≤ k * (kp xs + xs.length * a) := Int.mul_le_mul_of_nonneg_left (by have := Int.mul_nonneg (show (0 : Int) ≤ xs.length by omega) ha; omega) hk
  have hs : (xs ++ [a]).sum = xs.sum + a := by simp
  rw [hs]
  split
  · rw [if_pos (by omega)]; omega
  · split <;> omega
theorem cc_nn {f k : Int} (hf : 0 ≤ f) (hk : 0 ≤ k) {xs : List Int} (hx : nn xs) : 0 ≤ cc f k xs := by
  unfold cc
  have := Int.mul_nonneg hk hx.kp
  split <;> omega
/-- the least costs, one by one -/
structure Bst (f k : Int) (as L : List Int) : Prop where
  zero : L.getD 0 0 = 0
  there : ∀ e, 0 < e → e < L.length → ∃ b, b < e ∧ L.getD e 0 = L.getD b 0 + cc f k (seg as b e)
  least : ∀ e, 0 < e → e < L.length → ∀ b, b < e → L.getD e 0 ≤ L.getD b 0 + cc f k (seg as b e)
theorem seg_take {as : List Int} {b e m : Nat} (h : e ≤ m) : seg (as.take m) b e = seg as b e := by
  unfold seg
  rw [List.take_take, Nat.min_eq_left h]
theorem Bst.uniq {f k : Int} {as as' L L' : List Int} {m : Nat} (h : Bst f k as L) (h' : Bst f k as' L') (ha : as.take m = as'.take m) (hm : m < L.length) (hm' : m < L'.length) : ∀ e, e ≤ m → L.getD e 0 = L'.getD e 0 := by
  intro e
  induction e using Nat.strongRecOn with
  | _ e ih =>
    intro he
    by_cases h0 : e = 0
    · subst h0; rw [h.zero, h'.zero]
    · have sg : ∀ b, seg as b e = seg as' b e := fun b => by rw [← seg_take (as := as) he, ha, seg_take he]
      obtain ⟨b, hb, e1⟩ := h.there e (by omega) (by omega)
      obtain ⟨c, hc, e2⟩ := h'.there e (by omega) (by omega)
      have l1 := h.least e (by omega) (by omega) c hc
      have l2 := h'.least e (by omega) (by omega) b hb
      rw [ih c hc (by omega), sg c] at l1
      rw [← ih b hb (by omega), ← sg b] at l2
      omega
theorem Bst.mono {f k : Int} {as L : List Int} (h : Bst f k as L) (hf : 0 ≤ f) (hk : 0 ≤ k) (ha : nn as) (hl : L.length = as.length + 1) {e : Nat} (he : e < as.length) : L.getD e 0 ≤ L.getD (e + 1) 0 := by
  obtain ⟨b, hb, e1⟩ := h.there (e + 1) (by omega) (by omega)
  rw [e1]
  by_cases hbe : b = e
  · subst hbe
    have := cc_nn hf hk (ha.seg b (b + 1))
    omega
  · have l := h.least e (by omega) (by omega) b (by omega)
    have := cc_mono (f := f) (k := k) hf hk (ha.seg b e) (ha as[e] (List.getElem_mem _))
    rw [seg_succ (by omega) he]
    omega
theorem Bst.pair {f k : Int} {as L : List Int} (h : Bst f k as L) (hf : 0 ≤ f) (hk : 0 ≤ k) (ha : nn as) (hl : L.length = as.length + 1) : L.Pairwise (· ≤ ·) := by
  rw [List.pairwise_iff_getElem]
  intro i j hi hj hij
  have g : ∀ i (h : i < L.length), L[i] = L.getD i 0 := fun i h => by simp [List.getD_eq_getElem?_getD, List.getElem?_eq_getElem h]
  rw [g i hi, g j hj]
  obtain ⟨d, rfl⟩ : ∃ d, j = i + d := ⟨j - i, by omega⟩
  clear hij
  induction d with
  | zero => exact Int.le_refl _
  | succ d ih =>
    have a1 := ih (by omega)
    have a2 := h.mono hf hk ha hl (e := i + d) (by omega)
    exact Int.le_trans a1 (by rw [show i + (d + 1) = i + d + 1 by omega]; exact a2)
/-! what a plan costs -/
def sim (f k : Int) : Int → Int → List (Int × Int) → Int × Int
  | l, t, [] => (l, t)
  | l, t, (p, a) :: r => sim f k (l + p - a) (t + (k * (l + p - a) + if 0 < p then f else 0)) r
def okL : Int → List (Int × Int) → Prop
  | _, [] => True
  | l, (p, a) :: r => 0 ≤ l + p - a ∧ okL (l + p - a) r
theorem sim_app (f k : Int) : ∀ (r s : List (Int × Int)) (l t : Int), sim f k l t (r ++ s) = sim f k (sim f k l t r).1 (sim f k l t r).2 s
  | [], s, l, t => rfl
  | (p, a) :: r, s, l, t => by simp only [List.cons_append, sim]; exact sim_app f k r s _ _
theorem okL_app {f k t : Int} : ∀ {r s : List (Int × Int)} {l : Int}, okL l r → okL (sim f k l t r).1 s → okL l (r ++ s)
  | [], s, l, _, h => h
  | (p, a) :: r, s, l, h, g => ⟨h.1, okL_app (f := f) (k := k) (t := t + (k * (l + p - a) + if 0 < p then f else 0)) h.2 g⟩
theorem sim_zero (f k : Int) : ∀ (xs : List Int) (t : Int), nn xs → okL xs.sum (xs.map fun a => (0, a)) ∧ sim f k xs.sum t (xs.map fun a => (0, a)) = (0, t + k * kp xs)
  | [], t, _ => by simp [sim, okL, kp]
  | x :: xs, t, h => by
    have h' : nn xs := fun y q => h y (by simp [q])
    have e : (x :: xs).sum + 0 - x = xs.sum := by simp; omega
    obtain ⟨a1, a2⟩ := sim_zero f k xs (t + (k * xs.sum + 0)) h'
    simp only [List.map_cons, sim, okL, e]
    refine ⟨⟨h'.sum, a1⟩, ?_⟩
    rw [if_neg (by decide), a2, kp, Int.mul_add]
    congr 1
    omega
theorem sim_block (f k : Int) (x : Int) (xs : List Int) (t : Int) (h : nn (x :: xs)) : okL 0 (((x :: xs).sum, x) :: xs.map fun a => (0, a)) ∧ sim f k 0 t (((x :: xs).sum, x) :: xs.map fun a => (0, a)) = (0, t + cc f k (x :: xs)) := by
  have h' : nn xs := fun y q => h y (by simp [q])
  have e : 0 + (x :: xs).sum - x = xs.sum := by simp; omega
  simp only [sim, okL, e]
  obtain ⟨a1, a2⟩ := sim_zero f k xs (t + (k * xs.sum + if 0 < (x :: xs).sum then f else 0)) h'
  refine ⟨⟨h'.sum, a1⟩, ?_⟩
  rw [a2, cc, kp, Int.mul_add]
  congr 1
  omega
/-- the plan from e on -/
structure Tail (f k : Int) (as L : List Int) (e : Nat) (tl : List Int) : Prop where
  len : tl.length = as.length - e
  nn : nn tl
  le : ∀ p ∈ tl, p ≤ as.sum
  ok : okL 0 (tl.zip (as.drop e))
  sim : ∀ t, sim f k 0 t (tl.zip (as.drop e)) = (0, t + (L.getD as.length 0 - L.getD e 0))
theorem Tail.last (f k : Int) (as L : List Int) : Tail f k as L as.length [] := ⟨by simp, fun _ q => by simp at q, fun _ q => by simp at q, trivial, fun t => by simp [k25M.sim]⟩
theorem zip_zeros : ∀ (xs : List Int), (List.replicate xs.length (0 : Int)).zip xs = xs.map fun a => (0, a)
  | [] => rfl
  | x :: xs => by simp [List.replicate_succ, zip_zeros xs]
theorem seg_sum_le {as : List Int} (h : nn as) (b e : Nat) : (seg as b e).sum ≤ as.sum := by
  have e1 : as.sum = (as.take e).sum + (as.drop e).sum := by rw [← List.sum_append, List.take_append_drop]
  have e2 : (as.take e).sum = ((as.take e).take b).sum + ((as.take e).drop b).sum := by rw [← List.sum_append, List.take_append_drop]
  have n1 : nn (as.drop e) := fun x q => h x (List.mem_of_mem_drop q)
  have n2 : nn ((as.take e).take b) := fun x q => h x (List.mem_of_mem_take (List.mem_of_mem_take q))
  have := n1.sum
  have := n2.sum
  unfold seg
  omega
theorem Tail.step {f k : Int} {as L tl : List Int} {b e : Nat} (T : Tail f k as L e tl) (ha : k25M.nn as) (hb : b < e) (he : e ≤ as.length) (hL : L.getD e 0 = L.getD b 0 + cc f k (seg as b e)) :
    Tail f k as L b ((seg as b e).sum :: (List.replicate (e - b - 1) 0 ++ tl)) := by
  have hs : k25M.nn (seg as b e) := ha.seg b e
  have hlen := seg_length (as := as) (b := b) he
  obtain ⟨x, xs, ex⟩ : ∃ x xs, seg as b e = x :: xs := by
    cases hq : seg as b e with
    | nil => rw [hq] at hlen; simp at hlen; omega
    | cons x xs => exact ⟨x, xs, rfl⟩
  have hxs : xs.length = e - b - 1 := by rw [ex] at hlen; simp at hlen; omega
  have ez : ((seg as b e).sum :: (List.replicate (e - b - 1) 0 ++ tl)).zip (as.drop b) = (((x :: xs).sum, x) :: xs.map fun a => (0, a)) ++ tl.zip (as.drop e) := by
    rw [seg_drop (Nat.le_of_lt hb), ex, List.cons_append, List.zip_cons_cons, List.zip_append (by simp [hxs]), ← hxs, zip_zeros]
    rfl
  rw [ex] at hs
  refine ⟨?_, ?_, ?_, ?_, fun t => ?_⟩
  · have := T.len; simp; omega
  · intro y hy
    rcases List.mem_cons.mp hy with rfl | hy
    · rw [ex]; exact hs.sum
    · rcases List.mem_append.mp hy with hy | hy
      · rw [(List.mem_replicate.mp hy).2]; decide
      · exact T.nn y hy
  · intro y hy
    rcases List.mem_cons.mp hy with rfl | hy
    · exact seg_sum_le ha b e
    · rcases List.mem_append.mp hy with hy | hy
      · rw [(List.mem_replicate.mp hy).2]; exact ha.sum
      · exact T.le y hy
  · rw [ez]
    obtain ⟨a1, a2⟩ := sim_block f k x xs 0 hs
    refine okL_app (f := f) (k := k) (t := 0) a1 ?_
    rw [a2]; exact T.ok
  · rw [ez, sim_app]
    obtain ⟨a1, a2⟩ := sim_block f k x xs t hs
    rw [a2, T.sim, hL, ex]
    congr 1
    simp only
    omega
theorem Tail.set {as tl : List Int} {b e : Nat} (hb : b < e) (v : Int) : (List.replicate e (0 : Int) ++ tl).set b v = List.replicate b 0 ++ (v :: (List.replicate (e - b - 1) 0 ++ tl)) := by
  have e1 : List.replicate e (0 : Int) = List.replicate b 0 ++ (0 :: List.replicate (e - b - 1) 0) := by
    rw [← List.replicate_succ, List.replicate_append_replicate]
    congr 1
    omega
  rw [e1, List.append_assoc, List.set_append_right _ _ (by simp)]
  simp
/-- asked itself as a plan -/
theorem sim_self (f k : Int) : ∀ (as : List Int) (t : Int), nn as → okL 0 (as.zip as) ∧ sim f k 0 t (as.zip as) = (0, t + f * (as.filter fun a => decide (0 < a)).length)
  | [], t, _ => by simp [sim, okL]
  | x :: xs, t, h => by
    have h' : nn xs := fun y q => h y (by simp [q])
    have e : x - x = 0 := by omega
    simp only [List.zip_cons_cons, sim, okL, Int.zero_add, e, Int.mul_zero]
    obtain ⟨a1, a2⟩ := sim_self f k xs (t + if 0 < x then f else 0) h'
    refine ⟨⟨Int.le_refl _, a1⟩, ?_⟩
    rw [a2]
    by_cases hx : 0 < x
    · rw [if_pos hx, List.filter_cons_of_pos (by simpa using hx), List.length_cons]
      congr 1
      rw [show ((((xs.filter fun a => decide (0 < a)).length + 1 : Nat)) : Int) = ((xs.filter fun a => decide (0 < a)).length : Int) + 1 by omega, Int.mul_add]
      omega
    · rw [if_neg hx, List.filter_cons_of_neg (by simpa using hx)]
      congr 1
      omega
/-- all at once -/
theorem sim_once (f k : Int) (x : Int) (xs : List Int) (t : Int) (h : nn (x :: xs)) : okL 0 (((x :: xs).sum :: List.replicate xs.length 0).zip (x :: xs)) ∧ (sim f k 0 t (((x :: xs).sum :: List.replicate xs.length 0).zip (x :: xs))).1 = 0 := by
  rw [List.zip_cons_cons, zip_zeros]
  obtain ⟨a1, a2⟩ := sim_block f k x xs t h
  exact ⟨a1, by rw [a2]⟩
/-! storing -/
def short (room : Int) : Int → List (Int × Int) → Bool
  | _, [] => false
  | l, (m, w) :: r => if l + m < w then true else short room (min room (l + m - w)) r
def need : List (Int × Int) → Int
  | [] => 0
  | (m, w) :: r => max 0 (need r + w - m)
def mxn : List (Int × Int) → Int
  | [] => 0
  | (_, _) :: r => max (need r) (mxn r)
theorem need_nn : ∀ r, 0 ≤ need r
  | [] => by simp [need]
  | (m, w) :: r => by simp only [need]; omega
theorem mxn_nn : ∀ r, 0 ≤ mxn r
  | [] => by simp [mxn]
  | (m, w) :: r => by have := need_nn r; simp only [mxn]; omega
theorem short_iff {room : Int} (hr : 0 ≤ room) : ∀ {r : List (Int × Int)} {l : Int}, 0 ≤ l → (short room l r = false ↔ need r ≤ l ∧ mxn r ≤ room)
  | [], l, hl => by simp [short, need, mxn, hl, hr]
  | (m, w) :: r, l, hl => by
    simp only [short, need, mxn]
    have hn := need_nn r
    by_cases h : l + m < w
    · rw [if_pos h]
      simp only [Bool.true_eq_false, false_iff, not_and]
      intro h1
      omega
    · rw [if_neg h, short_iff hr (r := r) (l := min room (l + m - w)) (by omega)]
      omega
def plan : List (Int × Int) → List Int
  | [] => []
  | (m, w) :: r => min m (need r + w) :: plan r
theorem plan_length : ∀ r, (plan r).length = r.length
  | [] => rfl
  | (m, w) :: r => by simp [plan, plan_length r]
def okS (room : Int) : Int → List (Int × Int) → List Int → Prop
  | _, [], _ => True
  | _, _ :: _, [] => True
  | l, (m, w) :: r, p :: ps => 0 ≤ p ∧ p ≤ m ∧ 0 ≤ l + p - w ∧ l + p - w ≤ room ∧ okS room (l + p - w) r ps
theorem plan_ok {room : Int} : ∀ {r : List (Int × Int)}, (∀ x ∈ r, 0 ≤ x.1 ∧ 0 ≤ x.2) → mxn r ≤ room → okS room (need r) r (plan r)
  | [], _, _ => trivial
  | (m, w) :: r, h, hm => by
    have h1 := h (m, w) (by simp)
    have hn := need_nn r
    simp only [mxn] at hm
    have ih := plan_ok (room := room) (r := r) (fun x q => h x (by simp [q])) (by omega)
    simp only [plan, okS]
    have e : need ((m, w) :: r) + min m (need r + w) - w = need r := by simp only [need]; omega
    rw [e]
    exact ⟨by simp only at h1; omega, by omega, hn, by omega, ih⟩
theorem need_sum : ∀ {r : List (Int × Int)} {b : Int}, (∀ x ∈ r, 0 ≤ x.1) → (∀ x ∈ r, 0 ≤ x.2 ∧ x.2 ≤ b) → need r ≤ b * r.length ∧ mxn r ≤ b * r.length
  | [], b, _, _ => by simp [need, mxn]
  | (m, w) :: r, b, h, h2 => by
    obtain ⟨i1, i2⟩ := need_sum (r := r) (b := b) (fun x q => h x (by simp [q])) fun x q => h2 x (by simp [q])
    have h1 := h (m, w) (by simp)
    have h3 := h2 (m, w) (by simp)
    have hn := need_nn r
    simp only at h1 h3
    simp only [need, mxn, List.length_cons]
    have e : b * ((r.length + 1 : Nat) : Int) = b * r.length + b := by rw [Int.natCast_add, Int.mul_add]; simp
    rw [e]
    omega
end k25M

set_option Elab.async false
set_option linter.all false
set_option maxRecDepth 100000
set_option maxHeartbeats 0
namespace k25G
open PySem PySem.Spec PyProof.Rows L2 Sm k25M
/-! what plans cost, by the mirrors -/
abbrev T (xs : List Int) : DV := .p (.tup (xs.map PV.int))
theorem is_int_ok {x lo hi : Int} (h1 : lo ≤ x) (h2 : x ≤ hi) : m_is_int [.p (.int x), .p (.int lo), .p (.int hi)] = some (.p (.bl true), [.p (.int x), .p (.int lo), .p (.int hi)]) := by
  simp [m_is_int, b_is_int, runF, modeOk, fin_cons, fin, startE, sSeq, sIf, sNext, sRet, sRetN, sDrop, sAsg, sSetI, sPar, gSets, gSet, gTup', gCons', gNil', DV.comps, tQ, tE, tNot', tAnd', tOr', qVar, qC, qOp, eOp, qUn, eUn, qMk, eMk, qIf, eIf, bQ, qAnd, qOr, qNot, qChain, DV.bool?, aNil, aCons, aeNil, aeCons, ofQ, eMove, g_zero, g_succ, DV.lend, DV.owned, DV.light, dIx_tup, dIx_lst, dIx_ro, dIx_fz, dIx_ml, dIx_mr, dIx_mt, dAdd_int, dSub_int, dNeg_int, dLt_int, dLe_int, dGt_int, dGe_int, dInt_int, dLen_tup, dLen_lst, dLen_ro, dLen_fz, mkT, mkL, pures, sAug, eAppend, isL, dAppend, dSetI, amQ, amE, eCallM, eCall, qCall, oNone, oSome, qSl, dSl_tup, dSl_lst, dSl_ro, dSl_fz, dTuple_lst, dTuple_ro, dTuple_tup, dList_lst, dList_ro, dList_tup, dMin2_int, dMax2_int, dAbs_int, dEq_int, dNe_int, sCnt, sBrk, sNever, atI_0, atI_1, atI_2, sizeLine_eq, Option.bind_some, Option.map_some, Option.bind_none, Option.map_none, List.length_cons, List.length_nil, List.set_cons_zero, List.set_cons_succ, List.getElem?_cons_zero, List.getElem?_cons_succ, List.map_cons, List.map_nil, List.cons_append, List.nil_append, List.replicate, dIsi, h1, h2]
theorem are_ints_ok {xs : List Int} {lo hi : Int} (h : ∀ x ∈ xs, lo ≤ x ∧ x ≤ hi) (hl : xs.length ≤ 1000) : m_are_ints [.p (.tup (xs.map PV.int)), .p (.int lo), .p (.int hi)] = some (.p (.bl true), [.p (.tup (xs.map PV.int)), .p (.int lo), .p (.int hi)]) := by
  have hc : ∀ e : En, e = [some (.p (.tup (xs.map PV.int))), some (.p (.int lo)), some (.p (.int hi)), none] → qCompL [3] (fSeqQ (qVar 0)) (gSet 3) (cYesQ) (qCall m_is_int (aCons (qVar 3) (aCons (qVar 1) (aCons (qVar 2) (aNil))))) e = some (.lst ((xs.map fun _ => true).map PV.bl)) := by
    rintro e rfl
    rw [List.map_map]
    refine qCompL_all (fun i => .p (.int i)) (fun _ => .bl true) (xs := xs) ?_ (le_size (by omega)) fun x hx => ?_
    · simp [runF, modeOk, fin_cons, fin, startE, sSeq, sIf, sNext, sRet, sRetN, sDrop, sAsg, sSetI, sPar, gSets, gSet, gTup', gCons', gNil', DV.comps, tQ, tE, tNot', tAnd', tOr', qVar, qC, qOp, eOp, qUn, eUn, qMk, eMk, qIf, eIf, bQ, qAnd, qOr, qNot, qChain, DV.bool?, aNil, aCons, aeNil, aeCons, ofQ, eMove, g_zero, g_succ, DV.lend, DV.owned, DV.light, dIx_tup, dIx_lst, dIx_ro, dIx_fz, dIx_ml, dIx_mr, dIx_mt, dAdd_int, dSub_int, dNeg_int, dLt_int, dLe_int, dGt_int, dGe_int, dInt_int, dLen_tup, dLen_lst, dLen_ro, dLen_fz, mkT, mkL, pures, sAug, eAppend, isL, dAppend, dSetI, amQ, amE, eCallM, eCall, qCall, oNone, oSome, qSl, dSl_tup, dSl_lst, dSl_ro, dSl_fz, dTuple_lst, dTuple_ro, dTuple_tup, dList_lst, dList_ro, dList_tup, dMin2_int, dMax2_int, dAbs_int, dEq_int, dNe_int, sCnt, sBrk, sNever, atI_0, atI_1, atI_2, sizeLine_eq, Option.bind_some, Option.map_some, Option.bind_none, Option.map_none, List.length_cons, List.length_nil, List.set_cons_zero, List.set_cons_succ, List.getElem?_cons_zero, List.getElem?_cons_succ, List.map_cons, List.map_nil, List.cons_append, List.nil_append, List.replicate, fSeqQ, DV.itm]
    · refine ⟨[some (.p (.tup (xs.map PV.int))), some (.p (.int lo)), some (.p (.int hi)), some (.p (.int x))], ?_, rfl, ?_⟩
      · simp [runF, modeOk, fin_cons, fin, startE, sSeq, sIf, sNext, sRet, sRetN, sDrop, sAsg, sSetI, sPar, gSets, gSet, gTup', gCons', gNil', DV.comps, tQ, tE, tNot', tAnd', tOr', qVar, qC, qOp, eOp, qUn, eUn, qMk, eMk, qIf, eIf, bQ, qAnd, qOr, qNot, qChain, DV.bool?, aNil, aCons, aeNil, aeCons, ofQ, eMove, g_zero, g_succ, DV.lend, DV.owned, DV.light, dIx_tup, dIx_lst, dIx_ro, dIx_fz, dIx_ml, dIx_mr, dIx_mt, dAdd_int, dSub_int, dNeg_int, dLt_int, dLe_int, dGt_int, dGe_int, dInt_int, dLen_tup, dLen_lst, dLen_ro, dLen_fz, mkT, mkL, pures, sAug, eAppend, isL, dAppend, dSetI, amQ, amE, eCallM, eCall, qCall, oNone, oSome, qSl, dSl_tup, dSl_lst, dSl_ro, dSl_fz, dTuple_lst, dTuple_ro, dTuple_tup, dList_lst, dList_ro, dList_tup, dMin2_int, dMax2_int, dAbs_int, dEq_int, dNe_int, sCnt, sBrk, sNever, atI_0, atI_1, atI_2, sizeLine_eq, Option.bind_some, Option.map_some, Option.bind_none, Option.map_none, List.length_cons, List.length_nil, List.set_cons_zero, List.set_cons_succ, List.getElem?_cons_zero, List.getElem?_cons_succ, List.map_cons, List.map_nil, List.cons_append, List.nil_append, List.replicate, wipeE, lendE]
      · simp [runF, modeOk, fin_cons, fin, startE, sSeq, sIf, sNext, sRet, sRetN, sDrop, sAsg, sSetI, sPar, gSets, gSet, gTup', gCons', gNil', DV.comps, tQ, tE, tNot', tAnd', tOr', qVar, qC, qOp, eOp, qUn, eUn, qMk, eMk, qIf, eIf, bQ, qAnd, qOr, qNot, qChain, DV.bool?, aNil, aCons, aeNil, aeCons, ofQ, eMove, g_zero, g_succ, DV.lend, DV.owned, DV.light, dIx_tup, dIx_lst, dIx_ro, dIx_fz, dIx_ml, dIx_mr, dIx_mt, dAdd_int, dSub_int, dNeg_int, dLt_int, dLe_int, dGt_int, dGe_int, dInt_int, dLen_tup, dLen_lst, dLen_ro, dLen_fz, mkT, mkL, pures, sAug, eAppend, isL, dAppend, dSetI, amQ, amE, eCallM, eCall, qCall, oNone, oSome, qSl, dSl_tup, dSl_lst, dSl_ro, dSl_fz, dTuple_lst, dTuple_ro, dTuple_tup, dList_lst, dList_ro, dList_tup, dMin2_int, dMax2_int, dAbs_int, dEq_int, dNe_int, sCnt, sBrk, sNever, atI_0, atI_1, atI_2, sizeLine_eq, Option.bind_some, Option.map_some, Option.bind_none, Option.map_none, List.length_cons, List.length_nil, List.set_cons_zero, List.set_cons_succ, List.getElem?_cons_zero, List.getElem?_cons_succ, List.map_cons, List.map_nil, List.cons_append, List.nil_append, List.replicate, is_int_ok (h x hx).1 (h x hx).2]
  have ha : dAll [DV.lst ((xs.map fun _ => true).map PV.bl)] = some (.p (.bl true)) := by rw [dAll_lst]; simp
  have hq : qMk dAll (aCons (qCompL [3] (fSeqQ (qVar 0)) (gSet 3) (cYesQ) (qCall m_is_int (aCons (qVar 3) (aCons (qVar 1) (aCons (qVar 2) (aNil)))))) (aNil)) [some (.p (.tup (xs.map PV.int))), some (.p (.int lo)), some (.p (.int hi)), none] = some (.p (.bl true)) := (mk_q (a1_q (hc _ rfl))).trans ha
  have h2 : qAnd (qUn (dIsi .tuple) (qVar 0)) (qMk dAll (aCons (qCompL [3] (fSeqQ (qVar 0)) (gSet 3) (cYesQ) (qCall m_is_int (aCons (qVar 3) (aCons (qVar 1) (aCons (qVar 2) (aNil)))))) (aNil))) [some (.p (.tup (xs.map PV.int))), some (.p (.int lo)), some (.p (.int hi)), none] = some (.p (.bl true)) := hq
  exact run_rt (by simp [modeOk, DV.light]) (ret_q h2 rfl) rfl
def Rng (lo hi : Int) (xs : List Int) : Prop := ∀ x ∈ xs, lo ≤ x ∧ x ≤ hi
theorem look_ok {as : List Int} {f k : Int} (h : Rng 0 10000 as) (hl : as.length ≤ 60) (f0 : 0 ≤ f) (f1 : f ≤ 1000000) (k0 : 0 ≤ k) (k1 : k ≤ 1000000) : ∃ r, m_look_at_lots [T as, .p (.int f), .p (.int k)] = some (.p .non, r) := by
  have a := are_ints_ok (xs := as) (lo := 0) (hi := 10000) h (by omega)
  have b := is_int_ok (x := f) (lo := 0) (hi := 1000000) f0 f1
  have c := is_int_ok (x := k) (lo := 0) (hi := 1000000) k0 k1
  refine ⟨[T as, .p (.int f), .p (.int k)], run_nx (e := [some (T as), some (.p (.int f)), some (.p (.int k)), some (.p (.int k))]) (by simp [modeOk, DV.light]) ?_ rfl⟩
  unfold b_look_at_lots
  refine (seq_nx (e := [some (T as), some (.p (.int f)), some (.p (.int k)), none]) ?_).trans ((for_e (ds := [.p (.int f), .p (.int k)]) (e := [some (T as), some (.p (.int f)), some (.p (.int k)), none]) ?_).trans ?_)
  · simp [runF, modeOk, fin_cons, fin, startE, sSeq, sIf, sNext, sRet, sRetN, sDrop, sAsg, sSetI, sPar, gSets, gSet, gTup', gCons', gNil', DV.comps, tQ, tE, tNot', tAnd', tOr', qVar, qC, qOp, eOp, qUn, eUn, qMk, eMk, qIf, eIf, bQ, qAnd, qOr, qNot, qChain, DV.bool?, aNil, aCons, aeNil, aeCons, ofQ, eMove, g_zero, g_succ, DV.lend, DV.owned, DV.light, dIx_tup, dIx_lst, dIx_ro, dIx_fz, dIx_ml, dIx_mr, dIx_mt, dAdd_int, dSub_int, dNeg_int, dLt_int, dLe_int, dGt_int, dGe_int, dInt_int, dLen_tup, dLen_lst, dLen_ro, dLen_fz, mkT, mkL, pures, sAug, eAppend, isL, dAppend, dSetI, amQ, amE, eCallM, eCall, qCall, oNone, oSome, qSl, dSl_tup, dSl_lst, dSl_ro, dSl_fz, dTuple_lst, dTuple_ro, dTuple_tup, dList_lst, dList_ro, dList_tup, dMin2_int, dMax2_int, dAbs_int, dEq_int, dNe_int, sCnt, sBrk, sNever, atI_0, atI_1, atI_2, sizeLine_eq, Option.bind_some, Option.map_some, Option.bind_none, Option.map_none, List.length_cons, List.length_nil, List.set_cons_zero, List.set_cons_succ, List.getElem?_cons_zero, List.getElem?_cons_succ, List.map_cons, List.map_nil, List.cons_append, List.nil_append, List.replicate, a, show ¬ (60 : Int) < as.length by omega]
  · simp [runF, modeOk, fin_cons, fin, startE, sSeq, sIf, sNext, sRet, sRetN, sDrop, sAsg, sSetI, sPar, gSets, gSet, gTup', gCons', gNil', DV.comps, tQ, tE, tNot', tAnd', tOr', qVar, qC, qOp, eOp, qUn, eUn, qMk, eMk, qIf, eIf, bQ, qAnd, qOr, qNot, qChain, DV.bool?, aNil, aCons, aeNil, aeCons, ofQ, eMove, g_zero, g_succ, DV.lend, DV.owned, DV.light, dIx_tup, dIx_lst, dIx_ro, dIx_fz, dIx_ml, dIx_mr, dIx_mt, dAdd_int, dSub_int, dNeg_int, dLt_int, dLe_int, dGt_int, dGe_int, dInt_int, dLen_tup, dLen_lst, dLen_ro, dLen_fz, mkT, mkL, pures, sAug, eAppend, isL, dAppend, dSetI, amQ, amE, eCallM, eCall, qCall, oNone, oSome, qSl, dSl_tup, dSl_lst, dSl_ro, dSl_fz, dTuple_lst, dTuple_ro, dTuple_tup, dList_lst, dList_ro, dList_tup, dMin2_int, dMax2_int, dAbs_int, dEq_int, dNe_int, sCnt, sBrk, sNever, atI_0, atI_1, atI_2, sizeLine_eq, Option.bind_some, Option.map_some, Option.bind_none, Option.map_none, List.length_cons, List.length_nil, List.set_cons_zero, List.set_cons_succ, List.getElem?_cons_zero, List.getElem?_cons_succ, List.map_cons, List.map_nil, List.cons_append, List.nil_append, List.replicate, fSeq, qO, DV.itm]
  · simp [forL, b_look_at_lots_1, runF, modeOk, fin_cons, fin, startE, sSeq, sIf, sNext, sRet, sRetN, sDrop, sAsg, sSetI, sPar, gSets, gSet, gTup', gCons', gNil', DV.comps, tQ, tE, tNot', tAnd', tOr', qVar, qC, qOp, eOp, qUn, eUn, qMk, eMk, qIf, eIf, bQ, qAnd, qOr, qNot, qChain, DV.bool?, aNil, aCons, aeNil, aeCons, ofQ, eMove, g_zero, g_succ, DV.lend, DV.owned, DV.light, dIx_tup, dIx_lst, dIx_ro, dIx_fz, dIx_ml, dIx_mr, dIx_mt, dAdd_int, dSub_int, dNeg_int, dLt_int, dLe_int, dGt_int, dGe_int, dInt_int, dLen_tup, dLen_lst, dLen_ro, dLen_fz, mkT, mkL, pures, sAug, eAppend, isL, dAppend, dSetI, amQ, amE, eCallM, eCall, qCall, oNone, oSome, qSl, dSl_tup, dSl_lst, dSl_ro, dSl_fz, dTuple_lst, dTuple_ro, dTuple_tup, dList_lst, dList_ro, dList_tup, dMin2_int, dMax2_int, dAbs_int, dEq_int, dNe_int, sCnt, sBrk, sNever, atI_0, atI_1, atI_2, sizeLine_eq, Option.bind_some, Option.map_some, Option.bind_none, Option.map_none, List.length_cons, List.length_nil, List.set_cons_zero, List.set_cons_succ, List.getElem?_cons_zero, List.getElem?_cons_succ, List.map_cons, List.map_nil, List.cons_append, List.nil_append, List.replicate, b, c]
/-! loops over two -/
theorem zip_ints (xs ys : List Int) : ((xs.map PV.int).zip (ys.map PV.int)).map (fun p => DV.p (.tup [p.1, p.2])) = (xs.zip ys).map fun p => DV.p (.tup [.int p.1, .int p.2]) := by
  rw [List.zip_map, List.map_map]; rfl
def stp (f k : Int) (s : Int × Int) (x : Int × Int) : Int × Int := (s.1 + x.1 - x.2, s.2 + (k * (s.1 + x.1 - x.2) + if 0 < x.1 then f else 0))
theorem sim_fold (f k : Int) : ∀ (r : List (Int × Int)) (s : Int × Int), r.foldl (stp f k) s = sim f k s.1 s.2 r
  | [], s => rfl
  | (p, a) :: r, s => by rw [List.foldl_cons, sim_fold f k r]; rfl
theorem told_cost_ok {as ps : List Int} {f k : Int} (hk0 : 0 ≤ k) (hk1 : k ≤ 1000000) : ∃ r, m_told_cost [T as, .p (.int f), .p (.int k), T ps] = some (.p (.int (sim f k 0 0 (ps.zip as)).2), r) := by
  have hm : ∀ z, mulOk k z = true := fun z => mulOk_l (by omega) (by omega)
  obtain ⟨e', h1, ⟨o6, o7, rfl⟩, _⟩ := forL_fold (t := gTup' 2 (gCons' (gSet 6) (gCons' (gSet 7) (gNil')))) (b := b_told_cost_1) (fun p : Int × Int => DV.p (.tup [.int p.1, .int p.2]))
    (fun s e => ∃ o6 o7, e = [some (T as), some (.p (.int f)), some (.p (.int k)), some (T ps), some (.p (.int s.2)), some (.p (.int s.1)), o6, o7]) (stp f k) (fun _ _ => True) (ps.zip as) (0, 0) [some (T as), some (.p (.int f)), some (.p (.int k)), some (T ps), some (.p (.int 0)), some (.p (.int 0)), none, none] ⟨none, none, rfl⟩ trivial (by
      rintro s ⟨p, a⟩ r e - ⟨o6, o7, rfl⟩
      refine ⟨[some (T as), some (.p (.int f)), some (.p (.int k)), some (T ps), some (.p (.int s.2)), some (.p (.int s.1)), some (.p (.int p)), some (.p (.int a))], [some (T as), some (.p (.int f)), some (.p (.int k)), some (T ps), some (.p (.int (stp f k s (p, a)).2)), some (.p (.int (stp f k s (p, a)).1)), some (.p (.int p)), some (.p (.int a))], by simp [runF, modeOk, fin_cons, fin, startE, sSeq, sIf, sNext, sRet, sRetN, sDrop, sAsg, sSetI, sPar, gSets, gSet, gTup', gCons', gNil', DV.comps, tQ, tE, tNot', tAnd', tOr', qVar, qC, qOp, eOp, qUn, eUn, qMk, eMk, qIf, eIf, bQ, qAnd, qOr, qNot, qChain, DV.bool?, aNil, aCons, aeNil, aeCons, ofQ, eMove, g_zero, g_succ, DV.lend, DV.owned, DV.light, dIx_tup, dIx_lst, dIx_ro, dIx_fz, dIx_ml, dIx_mr, dIx_mt, dAdd_int, dSub_int, dNeg_int, dLt_int, dLe_int, dGt_int, dGe_int, dInt_int, dLen_tup, dLen_lst, dLen_ro, dLen_fz, mkT, mkL, pures, sAug, eAppend, isL, dAppend, dSetI, amQ, amE, eCallM, eCall, qCall, oNone, oSome, qSl, dSl_tup, dSl_lst, dSl_ro, dSl_fz, dTuple_lst, dTuple_ro, dTuple_tup, dList_lst, dList_ro, dList_tup, dMin2_int, dMax2_int, dAbs_int, dEq_int, dNe_int, sCnt, sBrk, sNever, atI_0, atI_1, atI_2, sizeLine_eq, Option.bind_some, Option.map_some, Option.bind_none, Option.map_none, List.length_cons, List.length_nil, List.set_cons_zero, List.set_cons_succ, List.getElem?_cons_zero, List.getElem?_cons_succ, List.map_cons, List.map_nil, List.cons_append, List.nil_append, List.replicate], .inl ?_, ⟨_, _, rfl⟩, trivial⟩
      have e1 : s.1 + (p - a) = s.1 + p - a := by omega
      by_cases hp : 0 < p
      · simp [b_told_cost_1, runF, modeOk, fin_cons, fin, startE, sSeq, sIf, sNext, sRet, sRetN, sDrop, sAsg, sSetI, sPar, gSets, gSet, gTup', gCons', gNil', DV.comps, tQ, tE, tNot', tAnd', tOr', qVar, qC, qOp, eOp, qUn, eUn, qMk, eMk, qIf, eIf, bQ, qAnd, qOr, qNot, qChain, DV.bool?, aNil, aCons, aeNil, aeCons, ofQ, eMove, g_zero, g_succ, DV.lend, DV.owned, DV.light, dIx_tup, dIx_lst, dIx_ro, dIx_fz, dIx_ml, dIx_mr, dIx_mt, dAdd_int, dSub_int, dNeg_int, dLt_int, dLe_int, dGt_int, dGe_int, dInt_int, dLen_tup, dLen_lst, dLen_ro, dLen_fz, mkT, mkL, pures, sAug, eAppend, isL, dAppend, dSetI, amQ, amE, eCallM, eCall, qCall, oNone, oSome, qSl, dSl_tup, dSl_lst, dSl_ro, dSl_fz, dTuple_lst, dTuple_ro, dTuple_tup, dList_lst, dList_ro, dList_tup, dMin2_int, dMax2_int, dAbs_int, dEq_int, dNe_int, sCnt, sBrk, sNever, atI_0, atI_1, atI_2, sizeLine_eq, Option.bind_some, Option.map_some, Option.bind_none, Option.map_none, List.length_cons, List.length_nil, List.set_cons_zero, List.set_cons_succ, List.getElem?_cons_zero, List.getElem?_cons_succ, List.map_cons, List.map_nil, List.cons_append, List.nil_append, List.replicate, dII, dMul_int, hm, hp, stp, e1]
      · simp [b_told_cost_1, runF, modeOk, fin_cons, fin, startE, sSeq, sIf, sNext, sRet, sRetN, sDrop, sAsg, sSetI, sPar, gSets, gSet, gTup', gCons', gNil', DV.comps, tQ, tE, tNot', tAnd', tOr', qVar, qC, qOp, eOp, qUn, eUn, qMk, eMk, qIf, eIf, bQ, qAnd, qOr, qNot, qChain, DV.bool?, aNil, aCons, aeNil, aeCons, ofQ, eMove, g_zero, g_succ, DV.lend, DV.owned, DV.light, dIx_tup, dIx_lst, dIx_ro, dIx_fz, dIx_ml, dIx_mr, dIx_mt, dAdd_int, dSub_int, dNeg_int, dLt_int, dLe_int, dGt_int, dGe_int, dInt_int, dLen_tup, dLen_lst, dLen_ro, dLen_fz, mkT, mkL, pures, sAug, eAppend, isL, dAppend, dSetI, amQ, amE, eCallM, eCall, qCall, oNone, oSome, qSl, dSl_tup, dSl_lst, dSl_ro, dSl_fz, dTuple_lst, dTuple_ro, dTuple_tup, dList_lst, dList_ro, dList_tup, dMin2_int, dMax2_int, dAbs_int, dEq_int, dNe_int, sCnt, sBrk, sNever, atI_0, atI_1, atI_2, sizeLine_eq, Option.bind_some, Option.map_some, Option.bind_none, Option.map_none, List.length_cons, List.length_nil, List.set_cons_zero, List.set_cons_succ, List.getElem?_cons_zero, List.getElem?_cons_succ, List.map_cons, List.map_nil, List.cons_append, List.nil_append, List.replicate, dII, dMul_int, hm, hp, stp, e1])
  rw [sim_fold] at h1
  refine ⟨[T as, .p (.int f), .p (.int k), T ps], run_rt (e := [some (T as), some (.p (.int f)), some (.p (.int k)), some (T ps), some (.p (.int (sim f k 0 0 (ps.zip as)).2)), some (.p (.int (sim f k 0 0 (ps.zip as)).1)), o6, o7]) (by simp [modeOk, DV.light]) ?_ rfl⟩
  unfold b_told_cost
  refine (seq_nx (e := [some (T as), some (.p (.int f)), some (.p (.int k)), some (T ps), some (.p (.int 0)), some (.p (.int 0)), none, none]) ?_).trans ((for_nx h1 ?_).trans ?_)
  · simp [runF, modeOk, fin_cons, fin, startE, sSeq, sIf, sNext, sRet, sRetN, sDrop, sAsg, sSetI, sPar, gSets, gSet, gTup', gCons', gNil', DV.comps, tQ, tE, tNot', tAnd', tOr', qVar, qC, qOp, eOp, qUn, eUn, qMk, eMk, qIf, eIf, bQ, qAnd, qOr, qNot, qChain, DV.bool?, aNil, aCons, aeNil, aeCons, ofQ, eMove, g_zero, g_succ, DV.lend, DV.owned, DV.light, dIx_tup, dIx_lst, dIx_ro, dIx_fz, dIx_ml, dIx_mr, dIx_mt, dAdd_int, dSub_int, dNeg_int, dLt_int, dLe_int, dGt_int, dGe_int, dInt_int, dLen_tup, dLen_lst, dLen_ro, dLen_fz, mkT, mkL, pures, sAug, eAppend, isL, dAppend, dSetI, amQ, amE, eCallM, eCall, qCall, oNone, oSome, qSl, dSl_tup, dSl_lst, dSl_ro, dSl_fz, dTuple_lst, dTuple_ro, dTuple_tup, dList_lst, dList_ro, dList_tup, dMin2_int, dMax2_int, dAbs_int, dEq_int, dNe_int, sCnt, sBrk, sNever, atI_0, atI_1, atI_2, sizeLine_eq, Option.bind_some, Option.map_some, Option.bind_none, Option.map_none, List.length_cons, List.length_nil, List.set_cons_zero, List.set_cons_succ, List.getElem?_cons_zero, List.getElem?_cons_succ, List.map_cons, List.map_nil, List.cons_append, List.nil_append, List.replicate]
  · simp [fW, qF, lightE, aCons, aNil, qVar, DV.lend, g_zero, g_succ, z2D_tup, zip_ints, DV.light]
  · simp [runF, modeOk, fin_cons, fin, startE, sSeq, sIf, sNext, sRet, sRetN, sDrop, sAsg, sSetI, sPar, gSets, gSet, gTup', gCons', gNil', DV.comps, tQ, tE, tNot', tAnd', tOr', qVar, qC, qOp, eOp, qUn, eUn, qMk, eMk, qIf, eIf, bQ, qAnd, qOr, qNot, qChain, DV.bool?, aNil, aCons, aeNil, aeCons, ofQ, eMove, g_zero, g_succ, DV.lend, DV.owned, DV.light, dIx_tup, dIx_lst, dIx_ro, dIx_fz, dIx_ml, dIx_mr, dIx_mt, dAdd_int, dSub_int, dNeg_int, dLt_int, dLe_int, dGt_int, dGe_int, dInt_int, dLen_tup, dLen_lst, dLen_ro, dLen_fz, mkT, mkL, pures, sAug, eAppend, isL, dAppend, dSetI, amQ, amE, eCallM, eCall, qCall, oNone, oSome, qSl, dSl_tup, dSl_lst, dSl_ro, dSl_fz, dTuple_lst, dTuple_ro, dTuple_tup, dList_lst, dList_ro, dList_tup, dMin2_int, dMax2_int, dAbs_int, dEq_int, dNe_int, sCnt, sBrk, sNever, atI_0, atI_1, atI_2, sizeLine_eq, Option.bind_some, Option.map_some, Option.bind_none, Option.map_none, List.length_cons, List.length_nil, List.set_cons_zero, List.set_cons_succ, List.getElem?_cons_zero, List.getElem?_cons_succ, List.map_cons, List.map_nil, List.cons_append, List.nil_append, List.replicate]
theorem law_cost_ok {as ps : List Int} {f k : Int} (hk0 : 0 ≤ k) (hk1 : k ≤ 1000000) (ho : okL 0 (ps.zip as)) (hz : (sim f k 0 0 (ps.zip as)).1 = 0) : ∃ r, m__law_cost [T as, .p (.int f), .p (.int k), T ps] = some (.p (.int (sim f k 0 0 (ps.zip as)).2), r) := by
  have hm : ∀ z, mulOk k z = true := fun z => mulOk_l (by omega) (by omega)
  obtain ⟨e', h1, ⟨o6, o7, rfl⟩, _⟩ := forL_fold (t := gTup' 2 (gCons' (gSet 6) (gCons' (gSet 7) (gNil')))) (b := b__law_cost_1) (fun p : Int × Int => DV.p (.tup [.int p.2, .int p.1]))
    (fun s e => ∃ o6 o7, e = [some (T as), some (.p (.int f)), some (.p (.int k)), some (T ps), some (.p (.int s.1)), some (.p (.int s.2)), o6, o7]) (stp f k) (fun s r => okL s.1 r) (ps.zip as) (0, 0) [some (T as), some (.p (.int f)), some (.p (.int k)), some (T ps), some (.p (.int 0)), some (.p (.int 0)), none, none] ⟨none, none, rfl⟩ ho (by
      rintro s ⟨p, a⟩ r e ho ⟨o6, o7, rfl⟩
      refine ⟨[some (T as), some (.p (.int f)), some (.p (.int k)), some (T ps), some (.p (.int s.1)), some (.p (.int s.2)), some (.p (.int a)), some (.p (.int p))], [some (T as), some (.p (.int f)), some (.p (.int k)), some (T ps), some (.p (.int (stp f k s (p, a)).1)), some (.p (.int (stp f k s (p, a)).2)), some (.p (.int a)), some (.p (.int p))], by simp [runF, modeOk, fin_cons, fin, startE, sSeq, sIf, sNext, sRet, sRetN, sDrop, sAsg, sSetI, sPar, gSets, gSet, gTup', gCons', gNil', DV.comps, tQ, tE, tNot', tAnd', tOr', qVar, qC, qOp, eOp, qUn, eUn, qMk, eMk, qIf, eIf, bQ, qAnd, qOr, qNot, qChain, DV.bool?, aNil, aCons, aeNil, aeCons, ofQ, eMove, g_zero, g_succ, DV.lend, DV.owned, DV.light, dIx_tup, dIx_lst, dIx_ro, dIx_fz, dIx_ml, dIx_mr, dIx_mt, dAdd_int, dSub_int, dNeg_int, dLt_int, dLe_int, dGt_int, dGe_int, dInt_int, dLen_tup, dLen_lst, dLen_ro, dLen_fz, mkT, mkL, pures, sAug, eAppend, isL, dAppend, dSetI, amQ, amE, eCallM, eCall, qCall, oNone, oSome, qSl, dSl_tup, dSl_lst, dSl_ro, dSl_fz, dTuple_lst, dTuple_ro, dTuple_tup, dList_lst, dList_ro, dList_tup, dMin2_int, dMax2_int, dAbs_int, dEq_int, dNe_int, sCnt, sBrk, sNever, atI_0, atI_1, atI_2, sizeLine_eq, Option.bind_some, Option.map_some, Option.bind_none, Option.map_none, List.length_cons, List.length_nil, List.set_cons_zero, List.set_cons_succ, List.getElem?_cons_zero, List.getElem?_cons_succ, List.map_cons, List.map_nil, List.cons_append, List.nil_append, List.replicate], .inl ?_, ⟨_, _, rfl⟩, ho.2⟩
      have h0 : ¬ s.1 + p - a < 0 := by have := ho.1; omega
      by_cases hp : 0 < p
      · have e1 : s.2 + f + k * (s.1 + p - a) = s.2 + (k * (s.1 + p - a) + f) := by omega
        simp [b__law_cost_1, runF, modeOk, fin_cons, fin, startE, sSeq, sIf, sNext, sRet, sRetN, sDrop, sAsg, sSetI, sPar, gSets, gSet, gTup', gCons', gNil', DV.comps, tQ, tE, tNot', tAnd', tOr', qVar, qC, qOp, eOp, qUn, eUn, qMk, eMk, qIf, eIf, bQ, qAnd, qOr, qNot, qChain, DV.bool?, aNil, aCons, aeNil, aeCons, ofQ, eMove, g_zero, g_succ, DV.lend, DV.owned, DV.light, dIx_tup, dIx_lst, dIx_ro, dIx_fz, dIx_ml, dIx_mr, dIx_mt, dAdd_int, dSub_int, dNeg_int, dLt_int, dLe_int, dGt_int, dGe_int, dInt_int, dLen_tup, dLen_lst, dLen_ro, dLen_fz, mkT, mkL, pures, sAug, eAppend, isL, dAppend, dSetI, amQ, amE, eCallM, eCall, qCall, oNone, oSome, qSl, dSl_tup, dSl_lst, dSl_ro, dSl_fz, dTuple_lst, dTuple_ro, dTuple_tup, dList_lst, dList_ro, dList_tup, dMin2_int, dMax2_int, dAbs_int, dEq_int, dNe_int, sCnt, sBrk, sNever, atI_0, atI_1, atI_2, sizeLine_eq, Option.bind_some, Option.map_some, Option.bind_none, Option.map_none, List.length_cons, List.length_nil, List.set_cons_zero, List.set_cons_succ, List.getElem?_cons_zero, List.getElem?_cons_succ, List.map_cons, List.map_nil, List.cons_append, List.nil_append, List.replicate, dMul_int, hm, hp, stp, h0, e1]
      · simp [b__law_cost_1, runF, modeOk, fin_cons, fin, startE, sSeq, sIf, sNext, sRet, sRetN, sDrop, sAsg, sSetI, sPar, gSets, gSet, gTup', gCons', gNil', DV.comps, tQ, tE, tNot', tAnd', tOr', qVar, qC, qOp, eOp, qUn, eUn, qMk, eMk, qIf, eIf, bQ, qAnd, qOr, qNot, qChain, DV.bool?, aNil, aCons, aeNil, aeCons, ofQ, eMove, g_zero, g_succ, DV.lend, DV.owned, DV.light, dIx_tup, dIx_lst, dIx_ro, dIx_fz, dIx_ml, dIx_mr, dIx_mt, dAdd_int, dSub_int, dNeg_int, dLt_int, dLe_int, dGt_int, dGe_int, dInt_int, dLen_tup, dLen_lst, dLen_ro, dLen_fz, mkT, mkL, pures, sAug, eAppend, isL, dAppend, dSetI, amQ, amE, eCallM, eCall, qCall, oNone, oSome, qSl, dSl_tup, dSl_lst, dSl_ro, dSl_fz, dTuple_lst, dTuple_ro, dTuple_tup, dList_lst, dList_ro, dList_tup, dMin2_int, dMax2_int, dAbs_int, dEq_int, dNe_int, sCnt, sBrk, sNever, atI_0, atI_1, atI_2, sizeLine_eq, Option.bind_some, Option.map_some, Option.bind_none, Option.map_none, List.length_cons, List.length_nil, List.set_cons_zero, List.set_cons_succ, List.getElem?_cons_zero, List.getElem?_cons_succ, List.map_cons, List.map_nil, List.cons_append, List.nil_append, List.replicate, dMul_int, hm, hp, stp, h0])
  rw [sim_fold] at h1
  refine ⟨[T as, .p (.int f), .p (.int k), T ps], run_rt (e := [some (T as), some (.p (.int f)), some (.p (.int k)), some (T ps), some (.p (.int (sim f k 0 0 (ps.zip as)).1)), some (.p (.int (sim f k 0 0 (ps.zip as)).2)), o6, o7]) (by simp [modeOk, DV.light]) ?_ rfl⟩
  have zs : ∀ xs ys : List Int, (xs.zip ys).map (fun p => DV.p (.tup [.int p.1, .int p.2])) = (ys.zip xs).map fun p => DV.p (.tup [.int p.2, .int p.1]) := by
    intro xs
    induction xs with
    | nil => intro ys; simp
    | cons x xs ih => intro ys; cases ys with
      | nil => simp
      | cons y ys => simp [ih]
  unfold b__law_cost
  refine (seq_nx (e := [some (T as), some (.p (.int f)), some (.p (.int k)), some (T ps), some (.p (.int 0)), some (.p (.int 0)), none, none]) ?_).trans ((for_nx h1 ?_).trans ?_)
  · simp [runF, modeOk, fin_cons, fin, startE, sSeq, sIf, sNext, sRet, sRetN, sDrop, sAsg, sSetI, sPar, gSets, gSet, gTup', gCons', gNil', DV.comps, tQ, tE, tNot', tAnd', tOr', qVar, qC, qOp, eOp, qUn, eUn, qMk, eMk, qIf, eIf, bQ, qAnd, qOr, qNot, qChain, DV.bool?, aNil, aCons, aeNil, aeCons, ofQ, eMove, g_zero, g_succ, DV.lend, DV.owned, DV.light, dIx_tup, dIx_lst, dIx_ro, dIx_fz, dIx_ml, dIx_mr, dIx_mt, dAdd_int, dSub_int, dNeg_int, dLt_int, dLe_int, dGt_int, dGe_int, dInt_int, dLen_tup, dLen_lst, dLen_ro, dLen_fz, mkT, mkL, pures, sAug, eAppend, isL, dAppend, dSetI, amQ, amE, eCallM, eCall, qCall, oNone, oSome, qSl, dSl_tup, dSl_lst, dSl_ro, dSl_fz, dTuple_lst, dTuple_ro, dTuple_tup, dList_lst, dList_ro, dList_tup, dMin2_int, dMax2_int, dAbs_int, dEq_int, dNe_int, sCnt, sBrk, sNever, atI_0, atI_1, atI_2, sizeLine_eq, Option.bind_some, Option.map_some, Option.bind_none, Option.map_none, List.length_cons, List.length_nil, List.set_cons_zero, List.set_cons_succ, List.getElem?_cons_zero, List.getElem?_cons_succ, List.map_cons, List.map_nil, List.cons_append, List.nil_append, List.replicate]
  · simp only [fW, qF, lightE, aCons, aNil, qVar]
    simp [DV.lend, g_zero, g_succ, z2D_tup, zip_ints, DV.light, zs]
  · simp [runF, modeOk, fin_cons, fin, startE, sSeq, sIf, sNext, sRet, sRetN, sDrop, sAsg, sSetI, sPar, gSets, gSet, gTup', gCons', gNil', DV.comps, tQ, tE, tNot', tAnd', tOr', qVar, qC, qOp, eOp, qUn, eUn, qMk, eMk, qIf, eIf, bQ, qAnd, qOr, qNot, qChain, DV.bool?, aNil, aCons, aeNil, aeCons, ofQ, eMove, g_zero, g_succ, DV.lend, DV.owned, DV.light, dIx_tup, dIx_lst, dIx_ro, dIx_fz, dIx_ml, dIx_mr, dIx_mt, dAdd_int, dSub_int, dNeg_int, dLt_int, dLe_int, dGt_int, dGe_int, dInt_int, dLen_tup, dLen_lst, dLen_ro, dLen_fz, mkT, mkL, pures, sAug, eAppend, isL, dAppend, dSetI, amQ, amE, eCallM, eCall, qCall, oNone, oSome, qSl, dSl_tup, dSl_lst, dSl_ro, dSl_fz, dTuple_lst, dTuple_ro, dTuple_tup, dList_lst, dList_ro, dList_tup, dMin2_int, dMax2_int, dAbs_int, dEq_int, dNe_int, sCnt, sBrk, sNever, atI_0, atI_1, atI_2, sizeLine_eq, Option.bind_some, Option.map_some, Option.bind_none, Option.map_none, List.length_cons, List.length_nil, List.set_cons_zero, List.set_cons_succ, List.getElem?_cons_zero, List.getElem?_cons_succ, List.map_cons, List.map_nil, List.cons_append, List.nil_append, List.replicate, hz]
theorem is_plan_ok {as ps : List Int} (h : Rng 0 600000 ps) (hl : ps.length ≤ 1000) (he : ps.length = as.length) (ho : okL 0 (ps.zip as)) (hz : (sim 0 0 0 0 (ps.zip as)).1 = 0) : ∃ r, m_is_plan [T as, T ps] = some (.p (.bl true), r) := by
  have a := are_ints_ok (xs := ps) (lo := 0) (hi := 600000) h hl
  have hm : mulOk 10000 60 = true := mulOk_l (by decide) (by decide)
  obtain ⟨e', h1, ⟨o3, o4, rfl⟩, _⟩ := forL_fold (t := gTup' 2 (gCons' (gSet 3) (gCons' (gSet 4) (gNil')))) (b := b_is_plan_1) (fun p : Int × Int => DV.p (.tup [.int p.1, .int p.2]))
    (fun s e => ∃ o3 o4, e = [some (T as), some (T ps), some (.p (.int s.1)), o3, o4]) (stp 0 0) (fun s r => okL s.1 r) (ps.zip as) (0, 0) [some (T as), some (T ps), some (.p (.int 0)), none, none] ⟨none, none, rfl⟩ ho (by
      rintro s ⟨p, a⟩ r e ho ⟨o3, o4, rfl⟩
      refine ⟨[some (T as), some (T ps), some (.p (.int s.1)), some (.p (.int p)), some (.p (.int a))], [some (T as), some (T ps), some (.p (.int (stp 0 0 s (p, a)).1)), some (.p (.int p)), some (.p (.int a))], by simp [runF, modeOk, fin_cons, fin, startE, sSeq, sIf, sNext, sRet, sRetN, sDrop, sAsg, sSetI, sPar, gSets, gSet, gTup', gCons', gNil', DV.comps, tQ, tE, tNot', tAnd', tOr', qVar, qC, qOp, eOp, qUn, eUn, qMk, eMk, qIf, eIf, bQ, qAnd, qOr, qNot, qChain, DV.bool?, aNil, aCons, aeNil, aeCons, ofQ, eMove, g_zero, g_succ, DV.lend, DV.owned, DV.light, dIx_tup, dIx_lst, dIx_ro, dIx_fz, dIx_ml, dIx_mr, dIx_mt, dAdd_int, dSub_int, dNeg_int, dLt_int, dLe_int, dGt_int, dGe_int, dInt_int, dLen_tup, dLen_lst, dLen_ro, dLen_fz, mkT, mkL, pures, sAug, eAppend, isL, dAppend, dSetI, amQ, amE, eCallM, eCall, qCall, oNone, oSome, qSl, dSl_tup, dSl_lst, dSl_ro, dSl_fz, dTuple_lst, dTuple_ro, dTuple_tup, dList_lst, dList_ro, dList_tup, dMin2_int, dMax2_int, dAbs_int, dEq_int, dNe_int, sCnt, sBrk, sNever, atI_0, atI_1, atI_2, sizeLine_eq, Option.bind_some, Option.map_some, Option.bind_none, Option.map_none, List.length_cons, List.length_nil, List.set_cons_zero, List.set_cons_succ, List.getElem?_cons_zero, List.getElem?_cons_succ, List.map_cons, List.map_nil, List.cons_append, List.nil_append, List.replicate], .inl ?_, ⟨_, _, rfl⟩, ho.2⟩
      have h0 : ¬ s.1 + p - a < 0 := by have := ho.1; omega
      have e1 : s.1 + (p - a) = s.1 + p - a := by omega
      simp [b_is_plan_1, runF, modeOk, fin_cons, fin, startE, sSeq, sIf, sNext, sRet, sRetN, sDrop, sAsg, sSetI, sPar, gSets, gSet, gTup', gCons', gNil', DV.comps, tQ, tE, tNot', tAnd', tOr', qVar, qC, qOp, eOp, qUn, eUn, qMk, eMk, qIf, eIf, bQ, qAnd, qOr, qNot, qChain, DV.bool?, aNil, aCons, aeNil, aeCons, ofQ, eMove, g_zero, g_succ, DV.lend, DV.owned, DV.light, dIx_tup, dIx_lst, dIx_ro, dIx_fz, dIx_ml, dIx_mr, dIx_mt, dAdd_int, dSub_int, dNeg_int, dLt_int, dLe_int, dGt_int, dGe_int, dInt_int, dLen_tup, dLen_lst, dLen_ro, dLen_fz, mkT, mkL, pures, sAug, eAppend, isL, dAppend, dSetI, amQ, amE, eCallM, eCall, qCall, oNone, oSome, qSl, dSl_tup, dSl_lst, dSl_ro, dSl_fz, dTuple_lst, dTuple_ro, dTuple_tup, dList_lst, dList_ro, dList_tup, dMin2_int, dMax2_int, dAbs_int, dEq_int, dNe_int, sCnt, sBrk, sNever, atI_0, atI_1, atI_2, sizeLine_eq, Option.bind_some, Option.map_some, Option.bind_none, Option.map_none, List.length_cons, List.length_nil, List.set_cons_zero, List.set_cons_succ, List.getElem?_cons_zero, List.getElem?_cons_succ, List.map_cons, List.map_nil, List.cons_append, List.nil_append, List.replicate, dII, stp, h0, e1])
  rw [sim_fold] at h1
  refine ⟨[T as, T ps], run_rt (e := [some (T as), some (T ps), some (.p (.int (sim 0 0 0 0 (ps.zip as)).1)), o3, o4]) (by simp [modeOk, DV.light]) ?_ rfl⟩
  unfold b_is_plan
  refine (seq_nx (e := [some (T as), some (T ps), none, none, none]) ?_).trans ((seq_nx (e := [some (T as), some (T ps), some (.p (.int 0)), none, none]) ?_).trans ((for_nx h1 ?_).trans ?_))
  · simp [runF, modeOk, fin_cons, fin, startE, sSeq, sIf, sNext, sRet, sRetN, sDrop, sAsg, sSetI, sPar, gSets, gSet, gTup', gCons', gNil', DV.comps, tQ, tE, tNot', tAnd', tOr', qVar, qC, qOp, eOp, qUn, eUn, qMk, eMk, qIf, eIf, bQ, qAnd, qOr, qNot, qChain, DV.bool?, aNil, aCons, aeNil, aeCons, ofQ, eMove, g_zero, g_succ, DV.lend, DV.owned, DV.light, dIx_tup, dIx_lst, dIx_ro, dIx_fz, dIx_ml, dIx_mr, dIx_mt, dAdd_int, dSub_int, dNeg_int, dLt_int, dLe_int, dGt_int, dGe_int, dInt_int, dLen_tup, dLen_lst, dLen_ro, dLen_fz, mkT, mkL, pures, sAug, eAppend, isL, dAppend, dSetI, amQ, amE, eCallM, eCall, qCall, oNone, oSome, qSl, dSl_tup, dSl_lst, dSl_ro, dSl_fz, dTuple_lst, dTuple_ro, dTuple_tup, dList_lst, dList_ro, dList_tup, dMin2_int, dMax2_int, dAbs_int, dEq_int, dNe_int, sCnt, sBrk, sNever, atI_0, atI_1, atI_2, sizeLine_eq, Option.bind_some, Option.map_some, Option.bind_none, Option.map_none, List.length_cons, List.length_nil, List.set_cons_zero, List.set_cons_succ, List.getElem?_cons_zero, List.getElem?_cons_succ, List.map_cons, List.map_nil, List.cons_append, List.nil_append, List.replicate, dMul_int, hm, a, he]
  · simp [runF, modeOk, fin_cons, fin, startE, sSeq, sIf, sNext, sRet, sRetN, sDrop, sAsg, sSetI, sPar, gSets, gSet, gTup', gCons', gNil', DV.comps, tQ, tE, tNot', tAnd', tOr', qVar, qC, qOp, eOp, qUn, eUn, qMk, eMk, qIf, eIf, bQ, qAnd, qOr, qNot, qChain, DV.bool?, aNil, aCons, aeNil, aeCons, ofQ, eMove, g_zero, g_succ, DV.lend, DV.owned, DV.light, dIx_tup, dIx_lst, dIx_ro, dIx_fz, dIx_ml, dIx_mr, dIx_mt, dAdd_int, dSub_int, dNeg_int, dLt_int, dLe_int, dGt_int, dGe_int, dInt_int, dLen_tup, dLen_lst, dLen_ro, dLen_fz, mkT, mkL, pures, sAug, eAppend, isL, dAppend, dSetI, amQ, amE, eCallM, eCall, qCall, oNone, oSome, qSl, dSl_tup, dSl_lst, dSl_ro, dSl_fz, dTuple_lst, dTuple_ro, dTuple_tup, dList_lst, dList_ro, dList_tup, dMin2_int, dMax2_int, dAbs_int, dEq_int, dNe_int, sCnt, sBrk, sNever, atI_0, atI_1, atI_2, sizeLine_eq, Option.bind_some, Option.map_some, Option.bind_none, Option.map_none, List.length_cons, List.length_nil, List.set_cons_zero, List.set_cons_succ, List.getElem?_cons_zero, List.getElem?_cons_succ, List.map_cons, List.map_nil, List.cons_append, List.nil_append, List.replicate]
  · simp only [fW, qF, lightE, aCons, aNil, qVar]
    simp [DV.lend, g_zero, g_succ, z2D_tup, zip_ints, DV.light]
  · simp [runF, modeOk, fin_cons, fin, startE, sSeq, sIf, sNext, sRet, sRetN, sDrop, sAsg, sSetI, sPar, gSets, gSet, gTup', gCons', gNil', DV.comps, tQ, tE, tNot', tAnd', tOr', qVar, qC, qOp, eOp, qUn, eUn, qMk, eMk, qIf, eIf, bQ, qAnd, qOr, qNot, qChain, DV.bool?, aNil, aCons, aeNil, aeCons, ofQ, eMove, g_zero, g_succ, DV.lend, DV.owned, DV.light, dIx_tup, dIx_lst, dIx_ro, dIx_fz, dIx_ml, dIx_mr, dIx_mt, dAdd_int, dSub_int, dNeg_int, dLt_int, dLe_int, dGt_int, dGe_int, dInt_int, dLen_tup, dLen_lst, dLen_ro, dLen_fz, mkT, mkL, pures, sAug, eAppend, isL, dAppend, dSetI, amQ, amE, eCallM, eCall, qCall, oNone, oSome, qSl, dSl_tup, dSl_lst, dSl_ro, dSl_fz, dTuple_lst, dTuple_ro, dTuple_tup, dList_lst, dList_ro, dList_tup, dMin2_int, dMax2_int, dAbs_int, dEq_int, dNe_int, sCnt, sBrk, sNever, atI_0, atI_1, atI_2, sizeLine_eq, Option.bind_some, Option.map_some, Option.bind_none, Option.map_none, List.length_cons, List.length_nil, List.set_cons_zero, List.set_cons_succ, List.getElem?_cons_zero, List.getElem?_cons_succ, List.map_cons, List.map_nil, List.cons_append, List.nil_append, List.replicate, hz]
end k25G

set_option Elab.async false
set_option linter.all false
set_option maxRecDepth 100000
set_option maxHeartbeats 0
namespace k25G
open PySem PySem.Spec PyProof.Rows L2 Sm k25M
/-! the least cost, going on season by season -/
theorem sum_range_succ (n : Nat) (g : Nat → Int) : ((List.range (n + 1)).map g).sum = g 0 + ((List.range n).map fun i => g (i + 1)).sum := by
  rw [List.range_succ_eq_map, List.map_cons, List.sum_cons, List.map_map]; rfl
theorem sum_add (n : Nat) (g h : Nat → Int) : ((List.range n).map fun i => g i + h i).sum = ((List.range n).map g).sum + ((List.range n).map h).sum := by
  induction n with
  | zero => simp
  | succ n ih => simp only [List.range_succ, List.map_append, List.sum_append, ih]; simp; omega
theorem sum_range : ∀ xs : List Int, ((List.range xs.length).map fun i => xs.getD i 0).sum = xs.sum
  | [] => by simp
  | x :: xs => by
    rw [List.length_cons, sum_range_succ]
    have := sum_range xs
    simp only [List.getD_cons_zero, List.getD_cons_succ, List.sum_cons, this]
theorem kp_range : ∀ xs : List Int, ((List.range xs.length).map fun i : Nat => (i : Int) * xs.getD i 0).sum = kp xs
  | [] => by simp [kp]
  | x :: xs => by
    rw [List.length_cons, sum_range_succ]
    have e : (fun i : Nat => ((i + 1 : Nat) : Int) * (x :: xs).getD (i + 1) 0) = fun i : Nat => (i : Int) * xs.getD i 0 + xs.getD i 0 := by
      funext i
      rw [List.getD_cons_succ, Int.natCast_add, Int.add_mul]; simp
    rw [e, sum_add, kp_range xs, sum_range xs, kp]; simp
theorem seg_getD {as : List Int} {b e i : Nat} (h : i < e - b) (he : e ≤ as.length) : (seg as b e).getD i 0 = as.getD (b + i) 0 := by
  unfold seg
  simp only [List.getD_eq_getElem?_getD, List.getElem?_drop]
  rw [List.getElem?_take_of_lt (by omega)]
theorem cut_seg (as : List Int) {b e : Nat} (hb : b ≤ e) (he : e ≤ as.length) : cutL (as.map PV.int) (some (b : Int)) (some (e : Int)) = (seg as b e).map PV.int := by
  unfold cutL seg
  have h1 : HT.sIx (as.map PV.int).length 0 (some (b : Int)) = b := by rw [HT.sIx_nat, List.length_map]; exact Nat.min_eq_left (by omega)
  have h2 : HT.sIx (as.map PV.int).length (as.map PV.int).length (some (e : Int)) = e := by rw [HT.sIx_nat, List.length_map]; exact Nat.min_eq_left he
  rw [h1, h2, ← List.map_drop, ← List.map_take, List.drop_take]
theorem getD_lt {xs : List Int} {i : Nat} (h : i < xs.length) : xs[i]? = some (xs.getD i 0) := by
  rw [List.getD_eq_getElem?_getD, List.getElem?_eq_getElem h]; rfl
/-- what is kept, by the program -/
theorem kept_q {as : List Int} {b e : Nat} (ha : Rng 0 10000 as) (hl : as.length ≤ 60) (hb : b ≤ e) (he : e ≤ as.length) (o1 o2 o3 o4 o5 o6 o7 o8 o9 o10 o11 : Option DV) : qMk dSumA (aCons (qCompL [11] (fRng2Q (aCons (qVar 7) (aCons (qVar 5) (aNil)))) (gSet 11) (cYesQ) (qOp dMul (qOp dSub (qVar 11) (qVar 7)) (qOp dIx (qVar 0) (qVar 11)))) (aNil)) [some (T as), o1, o2, o3, o4, some (.p (.int (e : Nat))), o6, some (.p (.int (b : Nat))), o8, o9, o10, o11] = some (.p (.int (kp (seg as b e)))) := by
  have main : qCompL [11] (fRng2Q (aCons (qVar 7) (aCons (qVar 5) (aNil)))) (gSet 11) (cYesQ) (qOp dMul (qOp dSub (qVar 11) (qVar 7)) (qOp dIx (qVar 0) (qVar 11))) [some (T as), o1, o2, o3, o4, some (.p (.int (e : Nat))), o6, some (.p (.int (b : Nat))), o8, o9, o10, o11] = some (.lst (((List.range (seg as b e).length).map fun i : Nat => (i : Int) * (seg as b e).getD i 0).map PV.int)) := by
    rw [List.map_map]
    have hlen := seg_length (as := as) (b := b) he
    refine qCompL_all (α := Nat) (fun i => .p (.int ((b : Int) + (i : Nat)))) (fun i : Nat => .int ((i : Int) * (seg as b e).getD i 0)) (xs := List.range (seg as b e).length) ?_ (by rw [List.length_range]; exact le_size (by omega)) fun i hi => ?_
    · have r1 : rngOk (b : Int) = true := rngOk_of (by omega) (by omega)
      have r2 : rngOk (e : Int) = true := rngOk_of (by omega) (by omega)
      have e1 : ((e : Int) - (b : Int)).toNat = (seg as b e).length := by omega
      simp [fRng2Q, runF, modeOk, fin_cons, fin, startE, sSeq, sIf, sNext, sRet, sRetN, sDrop, sAsg, sSetI, sPar, gSets, gSet, gTup', gCons', gNil', DV.comps, tQ, tE, tNot', tAnd', tOr', qVar, qC, qOp, eOp, qUn, eUn, qMk, eMk, qIf, eIf, bQ, qAnd, qOr, qNot, qChain, DV.bool?, aNil, aCons, aeNil, aeCons, ofQ, eMove, g_zero, g_succ, DV.lend, DV.owned, DV.light, dIx_tup, dIx_lst, dIx_ro, dIx_fz, dIx_ml, dIx_mr, dIx_mt, dAdd_int, dSub_int, dNeg_int, dLt_int, dLe_int, dGt_int, dGe_int, dInt_int, dLen_tup, dLen_lst, dLen_ro, dLen_fz, mkT, mkL, pures, sAug, eAppend, isL, dAppend, dSetI, amQ, amE, eCallM, eCall, qCall, oNone, oSome, qSl, dSl_tup, dSl_lst, dSl_ro, dSl_fz, dTuple_lst, dTuple_ro, dTuple_tup, dList_lst, dList_ro, dList_tup, dMin2_int, dMax2_int, dAbs_int, dEq_int, dNe_int, sCnt, sBrk, sNever, atI_0, atI_1, atI_2, sizeLine_eq, Option.bind_some, Option.map_some, Option.bind_none, Option.map_none, List.length_cons, List.length_nil, List.set_cons_zero, List.set_cons_succ, List.getElem?_cons_zero, List.getElem?_cons_succ, List.map_cons, List.map_nil, List.cons_append, List.nil_append, List.replicate, r1, r2, rgD, rgP, e1]
    · have hi : i < (seg as b e).length := by simpa using hi
      have hv := getD_lt (xs := as) (i := b + i) (by omega)
      have sg := seg_getD (as := as) (b := b) (e := e) (i := i) (by omega) he
      have hm : mulOk ((i : Nat) : Int) (as.getD (b + i) 0) = true := mulOk_l (by omega) (by omega)
      have e2 : (b : Int) + (i : Int) - b = i := by omega
      have e3 : atI (as.map PV.int) ((b : Int) + (i : Nat)) = some (.int (as.getD (b + i) 0)) := by
        rw [show (b : Int) + (i : Nat) = ((b + i : Nat) : Int) by omega, Sm.atI_nat, List.getElem?_map, hv]; rfl
      refine ⟨_, rfl, by simp [lendE, wipeE], ?_⟩
      simp [runF, modeOk, fin_cons, fin, startE, sSeq, sIf, sNext, sRet, sRetN, sDrop, sAsg, sSetI, sPar, gSets, gSet, gTup', gCons', gNil', DV.comps, tQ, tE, tNot', tAnd', tOr', qVar, qC, qOp, eOp, qUn, eUn, qMk, eMk, qIf, eIf, bQ, qAnd, qOr, qNot, qChain, DV.bool?, aNil, aCons, aeNil, aeCons, ofQ, eMove, g_zero, g_succ, DV.lend, DV.owned, DV.light, dIx_tup, dIx_lst, dIx_ro, dIx_fz, dIx_ml, dIx_mr, dIx_mt, dAdd_int, dSub_int, dNeg_int, dLt_int, dLe_int, dGt_int, dGe_int, dInt_int, dLen_tup, dLen_lst, dLen_ro, dLen_fz, mkT, mkL, pures, sAug, eAppend, isL, dAppend, dSetI, amQ, amE, eCallM, eCall, qCall, oNone, oSome, qSl, dSl_tup, dSl_lst, dSl_ro, dSl_fz, dTuple_lst, dTuple_ro, dTuple_tup, dList_lst, dList_ro, dList_tup, dMin2_int, dMax2_int, dAbs_int, dEq_int, dNe_int, sCnt, sBrk, sNever, atI_0, atI_1, atI_2, sizeLine_eq, Option.bind_some, Option.map_some, Option.bind_none, Option.map_none, List.length_cons, List.length_nil, List.set_cons_zero, List.set_cons_succ, List.getElem?_cons_zero, List.getElem?_cons_succ, List.map_cons, List.map_nil, List.cons_append, List.nil_append, List.replicate, lendE, wipeE, e2, e3, dMul_int, hm, sg, -List.getD_eq_getElem?_getD]
  refine (mk_q (a1_q main)).trans ?_
  rw [dSumA_lst, kp_range]
def ent (x : Int × Option Nat) : PV := .tup [.int x.1, match x.2 with | none => .non | some b => .int (b : Nat)]
structure BestI (f k : Int) (as : List Int) (B : List (Int × Option Nat)) : Prop where
  bst : Bst f k as (B.map Prod.fst)
  arg : ∀ i, 0 < i → i < B.length → ∃ b v, b < i ∧ B[i]? = some (v, some b) ∧ v = (B.map Prod.fst).getD b 0 + cc f k (seg as b i)
theorem best_0 (f k : Int) (as : List Int) : BestI f k as [(0, none)] := ⟨⟨rfl, fun e h1 h2 => by simp at h2; omega, fun e h1 h2 => by simp at h2; omega⟩, fun i h1 h2 => by simp at h2; omega⟩
theorem getD_app {xs : List Int} {v : Int} {i : Nat} (h : i < xs.length) : (xs ++ [v]).getD i 0 = xs.getD i 0 := by
  simp only [List.getD_eq_getElem?_getD, List.getElem?_append_left h]
theorem getD_end (xs : List Int) (v : Int) : (xs ++ [v]).getD xs.length 0 = v := by
  simp [List.getD_eq_getElem?_getD]
theorem bst_snoc {f k : Int} {as L : List Int} {v : Int} {b : Nat} (h : Bst f k as L) (h0 : 0 < L.length) (hb : b < L.length) (hv : v = L.getD b 0 + cc f k (seg as b L.length)) (hm : ∀ c, c < L.length → v ≤ L.getD c 0 + cc f k (seg as c L.length)) : Bst f k as (L ++ [v]) := by
  refine ⟨by rw [getD_app h0]; exact h.zero, fun e h1 h2 => ?_, fun e h1 h2 c hc => ?_⟩
  · simp at h2
    by_cases he : e < L.length
    · obtain ⟨c, hc, e1⟩ := h.there e h1 he
      exact ⟨c, hc, by rw [getD_app he, getD_app (by omega)]; exact e1⟩
    · have he : e = L.length := by omega
      subst he
      exact ⟨b, hb, by rw [getD_end, getD_app hb]; exact hv⟩
  · simp at h2
    by_cases he : e < L.length
    · rw [getD_app he, getD_app (by omega)]; exact h.least e h1 he c hc
    · have he : e = L.length := by omega
      subst he
      rw [getD_end, getD_app hc]; exact hm c hc
theorem BestI.snoc {f k : Int} {as : List Int} {B : List (Int × Option Nat)} {v : Int} {b : Nat} (h : BestI f k as B) (h0 : 0 < B.length) (hb : b < B.length) (hv : v = (B.map Prod.fst).getD b 0 + cc f k (seg as b B.length)) (hm : ∀ c, c < B.length → v ≤ (B.map Prod.fst).getD c 0 + cc f k (seg as c B.length)) : BestI f k as (B ++ [(v, some b)]) := by
  have hl : (B.map Prod.fst).length = B.length := by simp
  refine ⟨?_, fun i h1 h2 => ?_⟩
  · rw [List.map_append]
    exact bst_snoc h.bst (by rw [hl]; exact h0) (by rw [hl]; exact hb) (by rw [hl]; exact hv) fun c hc => by rw [hl] at hc ⊢; exact hm c hc
  · simp at h2
    by_cases hi : i < B.length
    · obtain ⟨c, w, a1, a2, a3⟩ := h.arg i h1 hi
      refine ⟨c, w, a1, by rw [List.getElem?_append_left hi]; exact a2, ?_⟩
      rw [List.map_append, List.map_cons, List.map_nil, getD_app (by rw [hl]; omega)]; exact a3
    · have hi : i = B.length := by omega
      subst hi
      refine ⟨b, v, hb, by simp, ?_⟩
      rw [List.map_append, List.map_cons, List.map_nil, getD_app (by rw [hl]; exact hb)]; exact hv
/-- a row of costs -/
def rowC (f k : Int) (as : List Int) (L : List Int) (e b : Nat) : Int := L.getD b 0 + cc f k (seg as b e)
theorem turn_2 {f k : Int} {as : List Int} {B : List (Int × Option Nat)} {e b : Nat} (ha : Rng 0 10000 as) (hl : as.length ≤ 60) (k0 : 0 ≤ k) (k1 : k ≤ 1000000) (he : e ≤ as.length) (hb : b < e) (hB : B.length = e) (o3 o4 o5 o6 o7 o8 o9 o10 o11 : Option DV) (S : List (Int × Int)) (hS : S.length ≤ 1000) :
    b_told_best_2 [some (T as), some (.p (.int f)), some (.p (.int k)), o3, some (.lst (B.map ent)), some (.p (.int (e : Nat))), some (.lst (S.map fun p => PV.tup [.int p.1, .int p.2])), some (.p (.int (b : Nat))), o8, o9, o10, o11] =
      some (.nx [some (T as), some (.p (.int f)), some (.p (.int k)), o3, some (.lst (B.map ent)), some (.p (.int (e : Nat))), some (.lst ((S ++ [(rowC f k as (B.map Prod.fst) e b, (b : Int))]).map fun p => PV.tup [.int p.1, .int p.2])), some (.p (.int (b : Nat))), o8, some (.p (.int (kp (seg as b e)))), some (.p (.int (seg as b e).sum)), o11]) := by
  have hk := kept_q ha hl (Nat.le_of_lt hb) he (some (.p (.int f))) (some (.p (.int k))) o3 (some (.lst (B.map ent))) o5 (some (.lst (S.map fun p => PV.tup [.int p.1, .int p.2]))) o7 o8 o9 o10 o11
  have hm : ∀ z, mulOk k z = true := fun z => mulOk_l (by omega) (by omega)
  have hc := cut_seg as (Nat.le_of_lt hb) he
  have hBe : (B.map ent)[b]? = some (ent B[b]) := by rw [List.getElem?_map, List.getElem?_eq_getElem (by omega)]; rfl
  have hL : (B.map Prod.fst).getD b 0 = B[b].1 := by
    rw [List.getD_eq_getElem?_getD, List.getElem?_map, List.getElem?_eq_getElem (by omega)]; rfl
  unfold b_told_best_2
  refine (seq_nx (asg_q hk rfl (by simp))).trans ?_
  simp only [List.set_cons_succ, List.set_cons_zero]
  refine (seq_nx (e := [some (T as), some (.p (.int f)), some (.p (.int k)), o3, some (.lst (B.map ent)), some (.p (.int (e : Nat))), some (.lst (S.map fun p => PV.tup [.int p.1, .int p.2])), some (.p (.int (b : Nat))), o8, some (.p (.int (kp (seg as b e)))), some (.p (.int (seg as b e).sum)), o11]) ?_).trans ?_
  · simp [runF, modeOk, fin_cons, fin, startE, sSeq, sIf, sNext, sRet, sRetN, sDrop, sAsg, sSetI, sPar, gSets, gSet, gTup', gCons', gNil', DV.comps, tQ, tE, tNot', tAnd', tOr', qVar, qC, qOp, eOp, qUn, eUn, qMk, eMk, qIf, eIf, bQ, qAnd, qOr, qNot, qChain, DV.bool?, aNil, aCons, aeNil, aeCons, ofQ, eMove, g_zero, g_succ, DV.lend, DV.owned, DV.light, dIx_tup, dIx_lst, dIx_ro, dIx_fz, dIx_ml, dIx_mr, dIx_mt, dAdd_int, dSub_int, dNeg_int, dLt_int, dLe_int, dGt_int, dGe_int, dInt_int, dLen_tup, dLen_lst, dLen_ro, dLen_fz, mkT, mkL, pures, sAug, eAppend, isL, dAppend, dSetI, amQ, amE, eCallM, eCall, qCall, oNone, oSome, qSl, dSl_tup, dSl_lst, dSl_ro, dSl_fz, dTuple_lst, dTuple_ro, dTuple_tup, dList_lst, dList_ro, dList_tup, dMin2_int, dMax2_int, dAbs_int, dEq_int, dNe_int, sCnt, sBrk, sNever, atI_0, atI_1, atI_2, sizeLine_eq, Option.bind_some, Option.map_some, Option.bind_none, Option.map_none, List.length_cons, List.length_nil, List.set_cons_zero, List.set_cons_succ, List.getElem?_cons_zero, List.getElem?_cons_succ, List.map_cons, List.map_nil, List.cons_append, List.nil_append, List.replicate, hc, dSumA_tup]
  · have hr : rowC f k as (B.map Prod.fst) e b = B[b].1 + k * kp (seg as b e) + (if 0 < (seg as b e).sum then f else 0) := by
      unfold rowC cc; rw [hL]; omega
    by_cases hs : 0 < (seg as b e).sum
    · rw [if_pos hs] at hr
      simp [runF, modeOk, fin_cons, fin, startE, sSeq, sIf, sNext, sRet, sRetN, sDrop, sAsg, sSetI, sPar, gSets, gSet, gTup', gCons', gNil', DV.comps, tQ, tE, tNot', tAnd', tOr', qVar, qC, qOp, eOp, qUn, eUn, qMk, eMk, qIf, eIf, bQ, qAnd, qOr, qNot, qChain, DV.bool?, aNil, aCons, aeNil, aeCons, ofQ, eMove, g_zero, g_succ, DV.lend, DV.owned, DV.light, dIx_tup, dIx_lst, dIx_ro, dIx_fz, dIx_ml, dIx_mr, dIx_mt, dAdd_int, dSub_int, dNeg_int, dLt_int, dLe_int, dGt_int, dGe_int, dInt_int, dLen_tup, dLen_lst, dLen_ro, dLen_fz, mkT, mkL, pures, sAug, eAppend, isL, dAppend, dSetI, amQ, amE, eCallM, eCall, qCall, oNone, oSome, qSl, dSl_tup, dSl_lst, dSl_ro, dSl_fz, dTuple_lst, dTuple_ro, dTuple_tup, dList_lst, dList_ro, dList_tup, dMin2_int, dMax2_int, dAbs_int, dEq_int, dNe_int, sCnt, sBrk, sNever, atI_0, atI_1, atI_2, sizeLine_eq, Option.bind_some, Option.map_some, Option.bind_none, Option.map_none, List.length_cons, List.length_nil, List.set_cons_zero, List.set_cons_succ, List.getElem?_cons_zero, List.getElem?_cons_succ, List.map_cons, List.map_nil, List.cons_append, List.nil_append, List.replicate, Sm.atI_nat, hBe, ent, dMul_int, hm, hs, hr, -List.map_map, -List.getD_eq_getElem?_getD]
      omega
    · rw [if_neg hs] at hr
      simp [runF, modeOk, fin_cons, fin, startE, sSeq, sIf, sNext, sRet, sRetN, sDrop, sAsg, sSetI, sPar, gSets, gSet, gTup', gCons', gNil', DV.comps, tQ, tE, tNot', tAnd', tOr', qVar, qC, qOp, eOp, qUn, eUn, qMk, eMk, qIf, eIf, bQ, qAnd, qOr, qNot, qChain, DV.bool?, aNil, aCons, aeNil, aeCons, ofQ, eMove, g_zero, g_succ, DV.lend, DV.owned, DV.light, dIx_tup, dIx_lst, dIx_ro, dIx_fz, dIx_ml, dIx_mr, dIx_mt, dAdd_int, dSub_int, dNeg_int, dLt_int, dLe_int, dGt_int, dGe_int, dInt_int, dLen_tup, dLen_lst, dLen_ro, dLen_fz, mkT, mkL, pures, sAug, eAppend, isL, dAppend, dSetI, amQ, amE, eCallM, eCall, qCall, oNone, oSome, qSl, dSl_tup, dSl_lst, dSl_ro, dSl_fz, dTuple_lst, dTuple_ro, dTuple_tup, dList_lst, dList_ro, dList_tup, dMin2_int, dMax2_int, dAbs_int, dEq_int, dNe_int, sCnt, sBrk, sNever, atI_0, atI_1, atI_2, sizeLine_eq, Option.bind_some, Option.map_some, Option.bind_none, Option.map_none, List.length_cons, List.length_nil, List.set_cons_zero, List.set_cons_succ, List.getElem?_cons_zero, List.getElem?_cons_succ, List.map_cons, List.map_nil, List.cons_append, List.nil_append, List.replicate, Sm.atI_nat, hBe, ent, dMul_int, hm, hs, hr, -List.map_map, -List.getD_eq_getElem?_getD]
      omega
end k25G

set_option Elab.async false
set_option linter.all false
set_option maxRecDepth 100000
set_option maxHeartbeats 0
namespace k25G
open PySem PySem.Spec PyProof.Rows L2 Sm k25M
theorem rgD_at {a b : Int} {i : Nat} {d : DV} (h : (rgD a b)[i]? = some d) : i < (b - a).toNat ∧ d = .p (.int (a + (i : Nat))) := rgD_get h
theorem turn_3 {f k : Int} {as : List Int} {B : List (Int × Option Nat)} {e : Nat} (ha : Rng 0 10000 as) (hl : as.length ≤ 60) (k0 : 0 ≤ k) (k1 : k ≤ 1000000) (he : e ≤ as.length) (h0 : 0 < e) (hB : BestI f k as B) (hBl : B.length = e) (o3 o4 o5 o6 o7 o8 o9 o10 o11 : Option DV) :
    ∃ B' e', BestI f k as B' ∧ B'.length = e + 1 ∧ b_told_best_3 [some (T as), some (.p (.int f)), some (.p (.int k)), o3, some (.lst (B.map ent)), some (.p (.int (e : Nat))), o6, o7, o8, o9, o10, o11] = some (.nx e') ∧ ∃ o6 o7 o8 o9 o10 o11, e' = [some (T as), some (.p (.int f)), some (.p (.int k)), o3, some (.lst (B'.map ent)), some (.p (.int (e : Nat))), o6, o7, o8, o9, o10, o11] := by
  have r1 : rngOk (e : Int) = true := rngOk_of (by omega) (by omega)
  obtain ⟨e', l1, ⟨p7, p8, p9, p10, p11, rfl⟩⟩ := forL_run (t := gSet 7) (b := b_told_best_2) (fun i env => ∃ o7 o8 o9 o10 o11, env = [some (T as), some (.p (.int f)), some (.p (.int k)), o3, some (.lst (B.map ent)), some (.p (.int (e : Nat))), some (.lst (((List.range i).map fun b => (rowC f k as (B.map Prod.fst) e b, (b : Int))).map fun p => PV.tup [.int p.1, .int p.2])), o7, o8, o9, o10, o11]) (ds := rgD 0 e) (n := 0) (env := [some (T as), some (.p (.int f)), some (.p (.int k)), o3, some (.lst (B.map ent)), some (.p (.int (e : Nat))), some (.lst []), o7, o8, o9, o10, o11]) ⟨o7, o8, o9, o10, o11, rfl⟩ (by
      rintro i d env hd ⟨o7, o8, o9, o10, o11, rfl⟩
      obtain ⟨hi, rfl⟩ := rgD_at hd
      have hi : i < e := by omega
      rw [Nat.zero_add, Int.zero_add]
      refine ⟨_, _, by simp only [gSet, List.length_cons, List.length_nil, List.set_cons_succ, List.set_cons_zero]; rfl, .inl (turn_2 ha hl k0 k1 he hi hBl o3 o4 o5 o6 o7 o8 o9 o10 o11 _ (by simp; omega)), ?_⟩
      simp only [List.range_succ, List.map_append, List.map_cons, List.map_nil]
      exact ⟨_, _, _, _, _, rfl⟩)
  have hds : (rgD 0 e).length = e := by rw [rgD_length]; omega
  rw [Nat.zero_add, hds] at l1
  have hne : (List.range e).map (fun b => (rowC f k as (B.map Prod.fst) e b, (b : Int))) ≠ [] := by simp; omega
  obtain ⟨m, m1, m2, m3⟩ := dMin1_ii hne
  obtain ⟨b, hb, rfl⟩ := List.mem_map.mp m1
  have hb : b < e := by simpa using hb
  have least : ∀ c, c < B.length → rowC f k as (B.map Prod.fst) e b ≤ (B.map Prod.fst).getD c 0 + cc f k (seg as c B.length) := fun c hc => by
    have := m3 (rowC f k as (B.map Prod.fst) e c, (c : Int)) (List.mem_map.mpr ⟨c, by simp; omega, rfl⟩)
    rw [hBl]; exact this
  have hB' := hB.snoc (by omega) (v := rowC f k as (B.map Prod.fst) e b) (b := b) (by omega) (by rw [hBl]; rfl) least
  refine ⟨B ++ [(rowC f k as (B.map Prod.fst) e b, some b)], [some (T as), some (.p (.int f)), some (.p (.int k)), o3, some (.lst ((B ++ [(rowC f k as (B.map Prod.fst) e b, some b)]).map ent)), some (.p (.int (e : Nat))), some (.lst (((List.range e).map fun b => (rowC f k as (B.map Prod.fst) e b, (b : Int))).map fun p => PV.tup [.int p.1, .int p.2])), p7, p8, p9, p10, p11], hB', by simp [hBl], ?_, _, _, _, _, _, _, rfl⟩
  unfold b_told_best_3
  refine (seq_nx (e := [some (T as), some (.p (.int f)), some (.p (.int k)), o3, some (.lst (B.map ent)), some (.p (.int (e : Nat))), some (.lst []), o7, o8, o9, o10, o11]) ?_).trans ((for_nx l1 ?_).trans ?_)
  · simp [runF, modeOk, fin_cons, fin, startE, sSeq, sIf, sNext, sRet, sRetN, sDrop, sAsg, sSetI, sPar, gSets, gSet, gTup', gCons', gNil', DV.comps, tQ, tE, tNot', tAnd', tOr', qVar, qC, qOp, eOp, qUn, eUn, qMk, eMk, qIf, eIf, bQ, qAnd, qOr, qNot, qChain, DV.bool?, aNil, aCons, aeNil, aeCons, ofQ, eMove, g_zero, g_succ, DV.lend, DV.owned, DV.light, dIx_tup, dIx_lst, dIx_ro, dIx_fz, dIx_ml, dIx_mr, dIx_mt, dAdd_int, dSub_int, dNeg_int, dLt_int, dLe_int, dGt_int, dGe_int, dInt_int, dLen_tup, dLen_lst, dLen_ro, dLen_fz, mkT, mkL, pures, sAug, eAppend, isL, dAppend, dSetI, amQ, amE, eCallM, eCall, qCall, oNone, oSome, qSl, dSl_tup, dSl_lst, dSl_ro, dSl_fz, dTuple_lst, dTuple_ro, dTuple_tup, dList_lst, dList_ro, dList_tup, dMin2_int, dMax2_int, dAbs_int, dEq_int, dNe_int, sCnt, sBrk, sNever, atI_0, atI_1, atI_2, sizeLine_eq, Option.bind_some, Option.map_some, Option.bind_none, Option.map_none, List.length_cons, List.length_nil, List.set_cons_zero, List.set_cons_succ, List.getElem?_cons_zero, List.getElem?_cons_succ, List.map_cons, List.map_nil, List.cons_append, List.nil_append, List.replicate]
  · simp [fRng1, runF, modeOk, fin_cons, fin, startE, sSeq, sIf, sNext, sRet, sRetN, sDrop, sAsg, sSetI, sPar, gSets, gSet, gTup', gCons', gNil', DV.comps, tQ, tE, tNot', tAnd', tOr', qVar, qC, qOp, eOp, qUn, eUn, qMk, eMk, qIf, eIf, bQ, qAnd, qOr, qNot, qChain, DV.bool?, aNil, aCons, aeNil, aeCons, ofQ, eMove, g_zero, g_succ, DV.lend, DV.owned, DV.light, dIx_tup, dIx_lst, dIx_ro, dIx_fz, dIx_ml, dIx_mr, dIx_mt, dAdd_int, dSub_int, dNeg_int, dLt_int, dLe_int, dGt_int, dGe_int, dInt_int, dLen_tup, dLen_lst, dLen_ro, dLen_fz, mkT, mkL, pures, sAug, eAppend, isL, dAppend, dSetI, amQ, amE, eCallM, eCall, qCall, oNone, oSome, qSl, dSl_tup, dSl_lst, dSl_ro, dSl_fz, dTuple_lst, dTuple_ro, dTuple_tup, dList_lst, dList_ro, dList_tup, dMin2_int, dMax2_int, dAbs_int, dEq_int, dNe_int, sCnt, sBrk, sNever, atI_0, atI_1, atI_2, sizeLine_eq, Option.bind_some, Option.map_some, Option.bind_none, Option.map_none, List.length_cons, List.length_nil, List.set_cons_zero, List.set_cons_succ, List.getElem?_cons_zero, List.getElem?_cons_succ, List.map_cons, List.map_nil, List.cons_append, List.nil_append, List.replicate, r1]
  · have m2' : dMin1 [.ro (((List.range e).map fun b => (rowC f k as (B.map Prod.fst) e b, (b : Int))).map fun p => PV.tup [.int p.1, .int p.2])] = some (.p (.tup [.int (rowC f k as (B.map Prod.fst) e b), .int (b : Nat)])) := m2
    simp only [sDrop, eAppend, ofQ, qMk, aCons, aNil, qVar, g_succ, g_zero, DV.lend, m2', Option.bind_some, Option.map_some]
    simp [runF, modeOk, fin_cons, fin, startE, sSeq, sIf, sNext, sRet, sRetN, sDrop, sAsg, sSetI, sPar, gSets, gSet, gTup', gCons', gNil', DV.comps, tQ, tE, tNot', tAnd', tOr', qVar, qC, qOp, eOp, qUn, eUn, qMk, eMk, qIf, eIf, bQ, qAnd, qOr, qNot, qChain, DV.bool?, aNil, aCons, aeNil, aeCons, ofQ, eMove, g_zero, g_succ, DV.lend, DV.owned, DV.light, dIx_tup, dIx_lst, dIx_ro, dIx_fz, dIx_ml, dIx_mr, dIx_mt, dAdd_int, dSub_int, dNeg_int, dLt_int, dLe_int, dGt_int, dGe_int, dInt_int, dLen_tup, dLen_lst, dLen_ro, dLen_fz, mkT, mkL, pures, sAug, eAppend, isL, dAppend, dSetI, amQ, amE, eCallM, eCall, qCall, oNone, oSome, qSl, dSl_tup, dSl_lst, dSl_ro, dSl_fz, dTuple_lst, dTuple_ro, dTuple_tup, dList_lst, dList_ro, dList_tup, dMin2_int, dMax2_int, dAbs_int, dEq_int, dNe_int, sCnt, sBrk, sNever, atI_0, atI_1, atI_2, sizeLine_eq, Option.bind_some, Option.map_some, Option.bind_none, Option.map_none, List.length_cons, List.length_nil, List.set_cons_zero, List.set_cons_succ, List.getElem?_cons_zero, List.getElem?_cons_succ, List.map_cons, List.map_nil, List.cons_append, List.nil_append, List.replicate, ent]
    omega
/-- the best plan -/
theorem zeros_q {as : List Int} (hl : as.length ≤ 60) (o1 o2 o3 o4 o5 o6 o7 o8 o9 o10 o11 : Option DV) : qCompL [11] (fSeqQ (qVar 0)) (gSet 11) (cYesQ) (qC (.int 0)) [some (T as), o1, o2, o3, o4, o5, o6, o7, o8, o9, o10, o11] = some (.lst ((List.replicate as.length (0 : Int)).map PV.int)) := by
  have e : (List.replicate as.length (0 : Int)).map PV.int = as.map fun _ => PV.int 0 := by
    rw [List.map_replicate, List.map_const']
  rw [e]
  refine qCompL_all (fun i => .p (.int i)) (fun _ => .int 0) (xs := as) ?_ (le_size (by omega)) fun x hx => ⟨_, rfl, by simp [lendE, wipeE], rfl⟩
  simp [fSeqQ, runF, modeOk, fin_cons, fin, startE, sSeq, sIf, sNext, sRet, sRetN, sDrop, sAsg, sSetI, sPar, gSets, gSet, gTup', gCons', gNil', DV.comps, tQ, tE, tNot', tAnd', tOr', qVar, qC, qOp, eOp, qUn, eUn, qMk, eMk, qIf, eIf, bQ, qAnd, qOr, qNot, qChain, DV.bool?, aNil, aCons, aeNil, aeCons, ofQ, eMove, g_zero, g_succ, DV.lend, DV.owned, DV.light, dIx_tup, dIx_lst, dIx_ro, dIx_fz, dIx_ml, dIx_mr, dIx_mt, dAdd_int, dSub_int, dNeg_int, dLt_int, dLe_int, dGt_int, dGe_int, dInt_int, dLen_tup, dLen_lst, dLen_ro, dLen_fz, mkT, mkL, pures, sAug, eAppend, isL, dAppend, dSetI, amQ, amE, eCallM, eCall, qCall, oNone, oSome, qSl, dSl_tup, dSl_lst, dSl_ro, dSl_fz, dTuple_lst, dTuple_ro, dTuple_tup, dList_lst, dList_ro, dList_tup, dMin2_int, dMax2_int, dAbs_int, dEq_int, dNe_int, sCnt, sBrk, sNever, atI_0, atI_1, atI_2, sizeLine_eq, Option.bind_some, Option.map_some, Option.bind_none, Option.map_none, List.length_cons, List.length_nil, List.set_cons_zero, List.set_cons_succ, List.getElem?_cons_zero, List.getElem?_cons_succ, List.map_cons, List.map_nil, List.cons_append, List.nil_append, List.replicate, DV.itm]
theorem told_best_ok {f k : Int} {as : List Int} (ha : Rng 0 10000 as) (hl : as.length ≤ 60) (k0 : 0 ≤ k) (k1 : k ≤ 1000000) :
    ∃ L P r, Bst f k as L ∧ L.length = as.length + 1 ∧ Tail f k as L 0 P ∧ m_told_best [T as, .p (.int f), .p (.int k)] = some (T P, r) := by
  have hn : nn as := fun x hx => (ha x hx).1
  have r1 : rngOk (1 : Int) = true := rngOk_of (by omega) (by omega)
  have r2 : rngOk ((as.length : Int) + 1) = true := rngOk_of (by omega) (by omega)
  obtain ⟨e', l1, B, o5, o6, o7, o8, o9, o10, o11, hB, hBl, rfl⟩ := forL_run (t := gSet 5) (b := b_told_best_3) (fun i env => ∃ B o5 o6 o7 o8 o9 o10 o11, BestI f k as B ∧ B.length = i + 1 ∧ env = [some (T as), some (.p (.int f)), some (.p (.int k)), some (.p (.int as.length)), some (.lst (B.map ent)), o5, o6, o7, o8, o9, o10, o11]) (ds := rgD 1 ((as.length : Int) + 1)) (n := 0) (env := [some (T as), some (.p (.int f)), some (.p (.int k)), some (.p (.int as.length)), some (.lst ([((0 : Int), (none : Option Nat))].map ent)), none, none, none, none, none, none, none]) ⟨_, none, none, none, none, none, none, none, best_0 f k as, rfl, rfl⟩ (by
      rintro i d env hd ⟨B, o5, o6, o7, o8, o9, o10, o11, hB, hBl, rfl⟩
      obtain ⟨hi, rfl⟩ := rgD_at hd
      rw [Nat.zero_add] at hBl ⊢
      obtain ⟨B', e', b1, b2, b3, q6, q7, q8, q9, q10, q11, rfl⟩ := turn_3 (e := i + 1) ha hl k0 k1 (by omega) (by omega) hB hBl (some (.p (.int as.length))) none none o6 o7 o8 o9 o10 o11
      have e1 : (1 : Int) + (i : Int) = ((i + 1 : Nat) : Int) := by omega
      rw [e1]
      exact ⟨_, _, by simp only [gSet, List.length_cons, List.length_nil, List.set_cons_succ, List.set_cons_zero]; rfl, .inl b3, B', _, _, _, _, _, _, _, b1, b2, rfl⟩)
  have hds : (rgD 1 ((as.length : Int) + 1)).length = as.length := by rw [rgD_length]; omega
  rw [Nat.zero_add, hds] at hBl
  have hLl : (B.map Prod.fst).length = as.length + 1 := by rw [List.length_map]; exact hBl
  obtain ⟨e2, l2, ⟨tl, p7, tT, rfl⟩⟩ := sWhile_run (t := tQ (qOp dGt (qVar 5) (qC (.int 0)))) (b := b_told_best_1) (fun n env => n ≤ as.length ∧ ∃ tl o7, Tail f k as (B.map Prod.fst) n tl ∧ env = [some (T as), some (.p (.int f)), some (.p (.int k)), some (.p (.int as.length)), some (.lst (B.map ent)), some (.p (.int (n : Nat))), o6, o7, some (.lst ((List.replicate n (0 : Int) ++ tl).map PV.int)), o9, o10, o11])
    (fun env => ∃ tl o7, Tail f k as (B.map Prod.fst) 0 tl ∧ env = [some (T as), some (.p (.int f)), some (.p (.int k)), some (.p (.int as.length)), some (.lst (B.map ent)), some (.p (.int 0)), o6, o7, some (.lst (tl.map PV.int)), o9, o10, o11]) (n := as.length) (e := [some (T as), some (.p (.int f)), some (.p (.int k)), some (.p (.int as.length)), some (.lst (B.map ent)), some (.p (.int as.length)), o6, o7, some (.lst ((List.replicate as.length (0 : Int) ++ []).map PV.int)), o9, o10, o11]) (by unfold fuel; omega) ⟨Nat.le_refl _, [], o7, Tail.last f k as _, rfl⟩ (by
      rintro n env ⟨hle, tl, o7, tT, rfl⟩
      by_cases h0 : n = 0
      · subst h0
        exact .inl ⟨_, by simp [runF, modeOk, fin_cons, fin, startE, sSeq, sIf, sNext, sRet, sRetN, sDrop, sAsg, sSetI, sPar, gSets, gSet, gTup', gCons', gNil', DV.comps, tQ, tE, tNot', tAnd', tOr', qVar, qC, qOp, eOp, qUn, eUn, qMk, eMk, qIf, eIf, bQ, qAnd, qOr, qNot, qChain, DV.bool?, aNil, aCons, aeNil, aeCons, ofQ, eMove, g_zero, g_succ, DV.lend, DV.owned, DV.light, dIx_tup, dIx_lst, dIx_ro, dIx_fz, dIx_ml, dIx_mr, dIx_mt, dAdd_int, dSub_int, dNeg_int, dLt_int, dLe_int, dGt_int, dGe_int, dInt_int, dLen_tup, dLen_lst, dLen_ro, dLen_fz, mkT, mkL, pures, sAug, eAppend, isL, dAppend, dSetI, amQ, amE, eCallM, eCall, qCall, oNone, oSome, qSl, dSl_tup, dSl_lst, dSl_ro, dSl_fz, dTuple_lst, dTuple_ro, dTuple_tup, dList_lst, dList_ro, dList_tup, dMin2_int, dMax2_int, dAbs_int, dEq_int, dNe_int, sCnt, sBrk, sNever, atI_0, atI_1, atI_2, sizeLine_eq, Option.bind_some, Option.map_some, Option.bind_none, Option.map_none, List.length_cons, List.length_nil, List.set_cons_zero, List.set_cons_succ, List.getElem?_cons_zero, List.getElem?_cons_succ, List.map_cons, List.map_nil, List.cons_append, List.nil_append, List.replicate]; rfl, tl, o7, tT, by simp⟩
      · obtain ⟨b, v, hb, e1, e2⟩ := hB.arg n (by omega) (by omega)
        have e3 : (B.map ent)[n]? = some (ent (v, some b)) := by rw [List.getElem?_map, e1]; rfl
        have hL : (B.map Prod.fst).getD n 0 = v := by rw [List.getD_eq_getElem?_getD, List.getElem?_map, e1]; rfl
        have T2 := tT.step hn hb hle (by rw [hL]; exact e2)
        have hs := Tail.set (as := as) (tl := tl) hb (seg as b n).sum
        have hc := cut_seg as (Nat.le_of_lt hb) hle
        refine .inr ⟨_, [some (T as), some (.p (.int f)), some (.p (.int k)), some (.p (.int as.length)), some (.lst (B.map ent)), some (.p (.int (b : Nat))), o6, some (.p (.int (b : Nat))), some (.lst ((List.replicate b (0 : Int) ++ ((seg as b n).sum :: (List.replicate (n - b - 1) 0 ++ tl))).map PV.int)), o9, o10, o11], b, by simp [runF, modeOk, fin_cons, fin, startE, sSeq, sIf, sNext, sRet, sRetN, sDrop, sAsg, sSetI, sPar, gSets, gSet, gTup', gCons', gNil', DV.comps, tQ, tE, tNot', tAnd', tOr', qVar, qC, qOp, eOp, qUn, eUn, qMk, eMk, qIf, eIf, bQ, qAnd, qOr, qNot, qChain, DV.bool?, aNil, aCons, aeNil, aeCons, ofQ, eMove, g_zero, g_succ, DV.lend, DV.owned, DV.light, dIx_tup, dIx_lst, dIx_ro, dIx_fz, dIx_ml, dIx_mr, dIx_mt, dAdd_int, dSub_int, dNeg_int, dLt_int, dLe_int, dGt_int, dGe_int, dInt_int, dLen_tup, dLen_lst, dLen_ro, dLen_fz, mkT, mkL, pures, sAug, eAppend, isL, dAppend, dSetI, amQ, amE, eCallM, eCall, qCall, oNone, oSome, qSl, dSl_tup, dSl_lst, dSl_ro, dSl_fz, dTuple_lst, dTuple_ro, dTuple_tup, dList_lst, dList_ro, dList_tup, dMin2_int, dMax2_int, dAbs_int, dEq_int, dNe_int, sCnt, sBrk, sNever, atI_0, atI_1, atI_2, sizeLine_eq, Option.bind_some, Option.map_some, Option.bind_none, Option.map_none, List.length_cons, List.length_nil, List.set_cons_zero, List.set_cons_succ, List.getElem?_cons_zero, List.getElem?_cons_succ, List.map_cons, List.map_nil, List.cons_append, List.nil_append, List.replicate, show 0 < n by omega]; rfl, .inl ?_, hb, by omega, _, _, T2, rfl⟩
        unfold b_told_best_1
        refine (seq_nx (e := [some (T as), some (.p (.int f)), some (.p (.int k)), some (.p (.int as.length)), some (.lst (B.map ent)), some (.p (.int (n : Nat))), o6, some (.p (.int (b : Nat))), some (.lst ((List.replicate n (0 : Int) ++ tl).map PV.int)), o9, o10, o11]) ?_).trans ((seq_nx (e := [some (T as), some (.p (.int f)), some (.p (.int k)), some (.p (.int as.length)), some (.lst (B.map ent)), some (.p (.int (n : Nat))), o6, some (.p (.int (b : Nat))), some (.lst ((List.replicate b (0 : Int) ++ ((seg as b n).sum :: (List.replicate (n - b - 1) 0 ++ tl))).map PV.int)), o9, o10, o11]) ?_).trans ?_)
        · simp [runF, modeOk, fin_cons, fin, startE, sSeq, sIf, sNext, sRet, sRetN, sDrop, sAsg, sSetI, sPar, gSets, gSet, gTup', gCons', gNil', DV.comps, tQ, tE, tNot', tAnd', tOr', qVar, qC, qOp, eOp, qUn, eUn, qMk, eMk, qIf, eIf, bQ, qAnd, qOr, qNot, qChain, DV.bool?, aNil, aCons, aeNil, aeCons, ofQ, eMove, g_zero, g_succ, DV.lend, DV.owned, DV.light, dIx_tup, dIx_lst, dIx_ro, dIx_fz, dIx_ml, dIx_mr, dIx_mt, dAdd_int, dSub_int, dNeg_int, dLt_int, dLe_int, dGt_int, dGe_int, dInt_int, dLen_tup, dLen_lst, dLen_ro, dLen_fz, mkT, mkL, pures, sAug, eAppend, isL, dAppend, dSetI, amQ, amE, eCallM, eCall, qCall, oNone, oSome, qSl, dSl_tup, dSl_lst, dSl_ro, dSl_fz, dTuple_lst, dTuple_ro, dTuple_tup, dList_lst, dList_ro, dList_tup, dMin2_int, dMax2_int, dAbs_int, dEq_int, dNe_int, sCnt, sBrk, sNever, atI_0, atI_1, atI_2, sizeLine_eq, Option.bind_some, Option.map_some, Option.bind_none, Option.map_none, List.length_cons, List.length_nil, List.set_cons_zero, List.set_cons_succ, List.getElem?_cons_zero, List.getElem?_cons_succ, List.map_cons, List.map_nil, List.cons_append, List.nil_append, List.replicate, Sm.atI_nat, e3, ent]
        · have hx : ixN (List.replicate n (0 : Int) ++ tl).length (b : Int) = some b := ixN_nat (by simp; omega)
          have hd : dSumA [T (seg as b n)] = some (.p (.int (seg as b n).sum)) := dSumA_tup _
          rw [← hs]
          generalize List.replicate n (0 : Int) ++ tl = Z at hx ⊢
          rw [List.map_set]
          simp [runF, modeOk, fin_cons, fin, startE, sSeq, sIf, sNext, sRet, sRetN, sDrop, sAsg, sSetI, sPar, gSets, gSet, gTup', gCons', gNil', DV.comps, tQ, tE, tNot', tAnd', tOr', qVar, qC, qOp, eOp, qUn, eUn, qMk, eMk, qIf, eIf, bQ, qAnd, qOr, qNot, qChain, DV.bool?, aNil, aCons, aeNil, aeCons, ofQ, eMove, g_zero, g_succ, DV.lend, DV.owned, DV.light, dIx_tup, dIx_lst, dIx_ro, dIx_fz, dIx_ml, dIx_mr, dIx_mt, dAdd_int, dSub_int, dNeg_int, dLt_int, dLe_int, dGt_int, dGe_int, dInt_int, dLen_tup, dLen_lst, dLen_ro, dLen_fz, mkT, mkL, pures, sAug, eAppend, isL, dAppend, dSetI, amQ, amE, eCallM, eCall, qCall, oNone, oSome, qSl, dSl_tup, dSl_lst, dSl_ro, dSl_fz, dTuple_lst, dTuple_ro, dTuple_tup, dList_lst, dList_ro, dList_tup, dMin2_int, dMax2_int, dAbs_int, dEq_int, dNe_int, sCnt, sBrk, sNever, atI_0, atI_1, atI_2, sizeLine_eq, Option.bind_some, Option.map_some, Option.bind_none, Option.map_none, List.length_cons, List.length_nil, List.set_cons_zero, List.set_cons_succ, List.getElem?_cons_zero, List.getElem?_cons_succ, List.map_cons, List.map_nil, List.cons_append, List.nil_append, List.replicate, hc, hd, hx]
        · generalize List.replicate b (0 : Int) ++ ((seg as b n).sum :: (List.replicate (n - b - 1) 0 ++ tl)) = Z
          simp [runF, modeOk, fin_cons, fin, startE, sSeq, sIf, sNext, sRet, sRetN, sDrop, sAsg, sSetI, sPar, gSets, gSet, gTup', gCons', gNil', DV.comps, tQ, tE, tNot', tAnd', tOr', qVar, qC, qOp, eOp, qUn, eUn, qMk, eMk, qIf, eIf, bQ, qAnd, qOr, qNot, qChain, DV.bool?, aNil, aCons, aeNil, aeCons, ofQ, eMove, g_zero, g_succ, DV.lend, DV.owned, DV.light, dIx_tup, dIx_lst, dIx_ro, dIx_fz, dIx_ml, dIx_mr, dIx_mt, dAdd_int, dSub_int, dNeg_int, dLt_int, dLe_int, dGt_int, dGe_int, dInt_int, dLen_tup, dLen_lst, dLen_ro, dLen_fz, mkT, mkL, pures, sAug, eAppend, isL, dAppend, dSetI, amQ, amE, eCallM, eCall, qCall, oNone, oSome, qSl, dSl_tup, dSl_lst, dSl_ro, dSl_fz, dTuple_lst, dTuple_ro, dTuple_tup, dList_lst, dList_ro, dList_tup, dMin2_int, dMax2_int, dAbs_int, dEq_int, dNe_int, sCnt, sBrk, sNever, atI_0, atI_1, atI_2, sizeLine_eq, Option.bind_some, Option.map_some, Option.bind_none, Option.map_none, List.length_cons, List.length_nil, List.set_cons_zero, List.set_cons_succ, List.getElem?_cons_zero, List.getElem?_cons_succ, List.map_cons, List.map_nil, List.cons_append, List.nil_append, List.replicate])
  refine ⟨B.map Prod.fst, tl, [T as, .p (.int f), .p (.int k)], hB.bst, hLl, tT, run_rt (e := [some (T as), some (.p (.int f)), some (.p (.int k)), some (.p (.int as.length)), some (.lst (B.map ent)), some (.p (.int 0)), o6, p7, some (.lst (tl.map PV.int)), o9, o10, o11]) (by simp [modeOk, DV.light]) ?_ rfl⟩
  have hz := zeros_q hl (some (.p (.int f))) (some (.p (.int k))) (some (.p (.int as.length))) (some (.lst (B.map ent))) o5 o6 o7 o8 o9 o10 o11
  unfold b_told_best
  refine (seq_nx (e := [some (T as), some (.p (.int f)), some (.p (.int k)), some (.p (.int as.length)), none, none, none, none, none, none, none, none]) ?_).trans ((seq_nx (e := [some (T as), some (.p (.int f)), some (.p (.int k)), some (.p (.int as.length)), some (.lst ([((0 : Int), (none : Option Nat))].map ent)), none, none, none, none, none, none, none]) ?_).trans ((for_nx l1 ?_).trans ((seq_nx (e := [some (T as), some (.p (.int f)), some (.p (.int k)), some (.p (.int as.length)), some (.lst (B.map ent)), some (.p (.int as.length)), o6, o7, some (.lst ((List.replicate as.length (0 : Int) ++ []).map PV.int)), o9, o10, o11]) ?_).trans ((seq_nx l2).trans ?_))))
  · simp [runF, modeOk, fin_cons, fin, startE, sSeq, sIf, sNext, sRet, sRetN, sDrop, sAsg, sSetI, sPar, gSets, gSet, gTup', gCons', gNil', DV.comps, tQ, tE, tNot', tAnd', tOr', qVar, qC, qOp, eOp, qUn, eUn, qMk, eMk, qIf, eIf, bQ, qAnd, qOr, qNot, qChain, DV.bool?, aNil, aCons, aeNil, aeCons, ofQ, eMove, g_zero, g_succ, DV.lend, DV.owned, DV.light, dIx_tup, dIx_lst, dIx_ro, dIx_fz, dIx_ml, dIx_mr, dIx_mt, dAdd_int, dSub_int, dNeg_int, dLt_int, dLe_int, dGt_int, dGe_int, dInt_int, dLen_tup, dLen_lst, dLen_ro, dLen_fz, mkT, mkL, pures, sAug, eAppend, isL, dAppend, dSetI, amQ, amE, eCallM, eCall, qCall, oNone, oSome, qSl, dSl_tup, dSl_lst, dSl_ro, dSl_fz, dTuple_lst, dTuple_ro, dTuple_tup, dList_lst, dList_ro, dList_tup, dMin2_int, dMax2_int, dAbs_int, dEq_int, dNe_int, sCnt, sBrk, sNever, atI_0, atI_1, atI_2, sizeLine_eq, Option.bind_some, Option.map_some, Option.bind_none, Option.map_none, List.length_cons, List.length_nil, List.set_cons_zero, List.set_cons_succ, List.getElem?_cons_zero, List.getElem?_cons_succ, List.map_cons, List.map_nil, List.cons_append, List.nil_append, List.replicate]
  · simp [runF, modeOk, fin_cons, fin, startE, sSeq, sIf, sNext, sRet, sRetN, sDrop, sAsg, sSetI, sPar, gSets, gSet, gTup', gCons', gNil', DV.comps, tQ, tE, tNot', tAnd', tOr', qVar, qC, qOp, eOp, qUn, eUn, qMk, eMk, qIf, eIf, bQ, qAnd, qOr, qNot, qChain, DV.bool?, aNil, aCons, aeNil, aeCons, ofQ, eMove, g_zero, g_succ, DV.lend, DV.owned, DV.light, dIx_tup, dIx_lst, dIx_ro, dIx_fz, dIx_ml, dIx_mr, dIx_mt, dAdd_int, dSub_int, dNeg_int, dLt_int, dLe_int, dGt_int, dGe_int, dInt_int, dLen_tup, dLen_lst, dLen_ro, dLen_fz, mkT, mkL, pures, sAug, eAppend, isL, dAppend, dSetI, amQ, amE, eCallM, eCall, qCall, oNone, oSome, qSl, dSl_tup, dSl_lst, dSl_ro, dSl_fz, dTuple_lst, dTuple_ro, dTuple_tup, dList_lst, dList_ro, dList_tup, dMin2_int, dMax2_int, dAbs_int, dEq_int, dNe_int, sCnt, sBrk, sNever, atI_0, atI_1, atI_2, sizeLine_eq, Option.bind_some, Option.map_some, Option.bind_none, Option.map_none, List.length_cons, List.length_nil, List.set_cons_zero, List.set_cons_succ, List.getElem?_cons_zero, List.getElem?_cons_succ, List.map_cons, List.map_nil, List.cons_append, List.nil_append, List.replicate, ent]
  · simp [fRng2, runF, modeOk, fin_cons, fin, startE, sSeq, sIf, sNext, sRet, sRetN, sDrop, sAsg, sSetI, sPar, gSets, gSet, gTup', gCons', gNil', DV.comps, tQ, tE, tNot', tAnd', tOr', qVar, qC, qOp, eOp, qUn, eUn, qMk, eMk, qIf, eIf, bQ, qAnd, qOr, qNot, qChain, DV.bool?, aNil, aCons, aeNil, aeCons, ofQ, eMove, g_zero, g_succ, DV.lend, DV.owned, DV.light, dIx_tup, dIx_lst, dIx_ro, dIx_fz, dIx_ml, dIx_mr, dIx_mt, dAdd_int, dSub_int, dNeg_int, dLt_int, dLe_int, dGt_int, dGe_int, dInt_int, dLen_tup, dLen_lst, dLen_ro, dLen_fz, mkT, mkL, pures, sAug, eAppend, isL, dAppend, dSetI, amQ, amE, eCallM, eCall, qCall, oNone, oSome, qSl, dSl_tup, dSl_lst, dSl_ro, dSl_fz, dTuple_lst, dTuple_ro, dTuple_tup, dList_lst, dList_ro, dList_tup, dMin2_int, dMax2_int, dAbs_int, dEq_int, dNe_int, sCnt, sBrk, sNever, atI_0, atI_1, atI_2, sizeLine_eq, Option.bind_some, Option.map_some, Option.bind_none, Option.map_none, List.length_cons, List.length_nil, List.set_cons_zero, List.set_cons_succ, List.getElem?_cons_zero, List.getElem?_cons_succ, List.map_cons, List.map_nil, List.cons_append, List.nil_append, List.replicate, r1, r2]
  · simp only [sPar, aeCons, aeNil, ofQ, hz, Option.bind_some, Option.map_some, DV.owned, List.append_nil]
    simp [runF, modeOk, fin_cons, fin, startE, sSeq, sIf, sNext, sRet, sRetN, sDrop, sAsg, sSetI, sPar, gSets, gSet, gTup', gCons', gNil', DV.comps, tQ, tE, tNot', tAnd', tOr', qVar, qC, qOp, eOp, qUn, eUn, qMk, eMk, qIf, eIf, bQ, qAnd, qOr, qNot, qChain, DV.bool?, aNil, aCons, aeNil, aeCons, ofQ, eMove, g_zero, g_succ, DV.lend, DV.owned, DV.light, dIx_tup, dIx_lst, dIx_ro, dIx_fz, dIx_ml, dIx_mr, dIx_mt, dAdd_int, dSub_int, dNeg_int, dLt_int, dLe_int, dGt_int, dGe_int, dInt_int, dLen_tup, dLen_lst, dLen_ro, dLen_fz, mkT, mkL, pures, sAug, eAppend, isL, dAppend, dSetI, amQ, amE, eCallM, eCall, qCall, oNone, oSome, qSl, dSl_tup, dSl_lst, dSl_ro, dSl_fz, dTuple_lst, dTuple_ro, dTuple_tup, dList_lst, dList_ro, dList_tup, dMin2_int, dMax2_int, dAbs_int, dEq_int, dNe_int, sCnt, sBrk, sNever, atI_0, atI_1, atI_2, sizeLine_eq, Option.bind_some, Option.map_some, Option.bind_none, Option.map_none, List.length_cons, List.length_nil, List.set_cons_zero, List.set_cons_succ, List.getElem?_cons_zero, List.getElem?_cons_succ, List.map_cons, List.map_nil, List.cons_append, List.nil_append, List.replicate]
  · simp [runF, modeOk, fin_cons, fin, startE, sSeq, sIf, sNext, sRet, sRetN, sDrop, sAsg, sSetI, sPar, gSets, gSet, gTup', gCons', gNil', DV.comps, tQ, tE, tNot', tAnd', tOr', qVar, qC, qOp, eOp, qUn, eUn, qMk, eMk, qIf, eIf, bQ, qAnd, qOr, qNot, qChain, DV.bool?, aNil, aCons, aeNil, aeCons, ofQ, eMove, g_zero, g_succ, DV.lend, DV.owned, DV.light, dIx_tup, dIx_lst, dIx_ro, dIx_fz, dIx_ml, dIx_mr, dIx_mt, dAdd_int, dSub_int, dNeg_int, dLt_int, dLe_int, dGt_int, dGe_int, dInt_int, dLen_tup, dLen_lst, dLen_ro, dLen_fz, mkT, mkL, pures, sAug, eAppend, isL, dAppend, dSetI, amQ, amE, eCallM, eCall, qCall, oNone, oSome, qSl, dSl_tup, dSl_lst, dSl_ro, dSl_fz, dTuple_lst, dTuple_ro, dTuple_tup, dList_lst, dList_ro, dList_tup, dMin2_int, dMax2_int, dAbs_int, dEq_int, dNe_int, sCnt, sBrk, sNever, atI_0, atI_1, atI_2, sizeLine_eq, Option.bind_some, Option.map_some, Option.bind_none, Option.map_none, List.length_cons, List.length_nil, List.set_cons_zero, List.set_cons_succ, List.getElem?_cons_zero, List.getElem?_cons_succ, List.map_cons, List.map_nil, List.cons_append, List.nil_append, List.replicate]
end k25G

set_option Elab.async false
set_option linter.all false
set_option maxRecDepth 100000
set_option maxHeartbeats 0
namespace k25G
open PySem PySem.Spec PyProof.Rows L2 Sm k25M
/-! the law's own least costs -/
theorem enumP_range : ∀ (xs : List Int) (k : Int), enumP k (xs.map PV.int) = (List.range xs.length).map fun i : Nat => DV.p (.tup [.int (k + (i : Nat)), .int (xs.getD i 0)])
  | [], _ => by simp [enumP]
  | x :: xs, k => by
    rw [List.length_cons, List.range_succ_eq_map, List.map_cons, List.map_cons, enumP, enumP_range xs (k + 1), List.map_map]
    simp only [List.getD_cons_zero]
    congr 1
    · simp
    · apply List.map_congr_left
      intro i _
      simp only [Function.comp, Nat.succ_eq_add_one, List.getD_cons_succ]
      rw [show k + 1 + (i : Int) = k + ((i + 1 : Nat) : Int) by omega]
theorem lkept_q {as : List Int} {b e : Nat} (ha : Rng 0 10000 as) (hl : as.length ≤ 60) (hb : b ≤ e) (he : e ≤ as.length) (o1 o2 o3 o4 o5 o6 o7 o8 o9 o10 : Option DV) : qMk dSumA (aCons (qCompL [9, 10] (fWq e2D (aCons (qSl (qVar 0) (oSome (qVar 6)) (oSome (qVar 4))) (aCons (qVar 6) (aNil)))) (gTup' 2 (gCons' (gSet 9) (gCons' (gSet 10) (gNil')))) (cYesQ) (qOp dMul (qVar 10) (qOp dSub (qVar 9) (qVar 6)))) (aNil)) [some (T as), o1, o2, o3, some (.p (.int (e : Nat))), o5, some (.p (.int (b : Nat))), o7, o8, o9, o10] = some (.p (.int (kp (seg as b e)))) := by
  have hc := cut_seg as hb he
  have hlen := seg_length (as := as) (b := b) he
  have hr : Rng 0 10000 (seg as b e) := fun x hx => ha x (List.mem_of_mem_take (List.mem_of_mem_drop hx))
  have main : qCompL [9, 10] (fWq e2D (aCons (qSl (qVar 0) (oSome (qVar 6)) (oSome (qVar 4))) (aCons (qVar 6) (aNil)))) (gTup' 2 (gCons' (gSet 9) (gCons' (gSet 10) (gNil')))) (cYesQ) (qOp dMul (qVar 10) (qOp dSub (qVar 9) (qVar 6))) [some (T as), o1, o2, o3, some (.p (.int (e : Nat))), o5, some (.p (.int (b : Nat))), o7, o8, o9, o10] = some (.lst (((List.range (seg as b e).length).map fun i : Nat => (seg as b e).getD i 0 * (i : Int)).map PV.int)) := by
    rw [List.map_map]
    refine qCompL_all (α := Nat) (fun i => .p (.tup [.int ((b : Int) + (i : Nat)), .int ((seg as b e).getD i 0)])) (fun i : Nat => .int ((seg as b e).getD i 0 * (i : Int))) (xs := List.range (seg as b e).length) ?_ (by rw [List.length_range]; exact le_size (by omega)) fun i hi => ?_
    · have h62 : lg 62 (b : Int) = true := lg_of (by omega) (by decide)
      have e2 := e2D_tup ((seg as b e).map PV.int) h62
      rw [enumP_range] at e2
      simp only [fWq, aCons, aNil, qSl, qVar, oSome, g_zero, g_succ, DV.lend, Option.bind_some, Option.map_some, dSl_tup, hc]
      exact e2
    · have hi : i < (seg as b e).length := by simpa using hi
      have hv := getD_lt hi
      have hm : mulOk ((seg as b e).getD i 0) ((i : Nat) : Int) = true := mulOk_r (by omega) (by omega)
      have e2 : (b : Int) + (i : Int) - b = i := by omega
      refine ⟨_, by simp [lendE, wipeE, runF, modeOk, fin_cons, fin, startE, sSeq, sIf, sNext, sRet, sRetN, sDrop, sAsg, sSetI, sPar, gSets, gSet, gTup', gCons', gNil', DV.comps, tQ, tE, tNot', tAnd', tOr', qVar, qC, qOp, eOp, qUn, eUn, qMk, eMk, qIf, eIf, bQ, qAnd, qOr, qNot, qChain, DV.bool?, aNil, aCons, aeNil, aeCons, ofQ, eMove, g_zero, g_succ, DV.lend, DV.owned, DV.light, dIx_tup, dIx_lst, dIx_ro, dIx_fz, dIx_ml, dIx_mr, dIx_mt, dAdd_int, dSub_int, dNeg_int, dLt_int, dLe_int, dGt_int, dGe_int, dInt_int, dLen_tup, dLen_lst, dLen_ro, dLen_fz, mkT, mkL, pures, sAug, eAppend, isL, dAppend, dSetI, amQ, amE, eCallM, eCall, qCall, oNone, oSome, qSl, dSl_tup, dSl_lst, dSl_ro, dSl_fz, dTuple_lst, dTuple_ro, dTuple_tup, dList_lst, dList_ro, dList_tup, dMin2_int, dMax2_int, dAbs_int, dEq_int, dNe_int, sCnt, sBrk, sNever, atI_0, atI_1, atI_2, sizeLine_eq, Option.bind_some, Option.map_some, Option.bind_none, Option.map_none, List.length_cons, List.length_nil, List.set_cons_zero, List.set_cons_succ, List.getElem?_cons_zero, List.getElem?_cons_succ, List.map_cons, List.map_nil, List.cons_append, List.nil_append, List.replicate]; rfl, by simp [lendE, wipeE], ?_⟩
      rw [List.getD_eq_getElem?_getD] at hm
      simp [runF, modeOk, fin_cons, fin, startE, sSeq, sIf, sNext, sRet, sRetN, sDrop, sAsg, sSetI, sPar, gSets, gSet, gTup', gCons', gNil', DV.comps, tQ, tE, tNot', tAnd', tOr', qVar, qC, qOp, eOp, qUn, eUn, qMk, eMk, qIf, eIf, bQ, qAnd, qOr, qNot, qChain, DV.bool?, aNil, aCons, aeNil, aeCons, ofQ, eMove, g_zero, g_succ, DV.lend, DV.owned, DV.light, dIx_tup, dIx_lst, dIx_ro, dIx_fz, dIx_ml, dIx_mr, dIx_mt, dAdd_int, dSub_int, dNeg_int, dLt_int, dLe_int, dGt_int, dGe_int, dInt_int, dLen_tup, dLen_lst, dLen_ro, dLen_fz, mkT, mkL, pures, sAug, eAppend, isL, dAppend, dSetI, amQ, amE, eCallM, eCall, qCall, oNone, oSome, qSl, dSl_tup, dSl_lst, dSl_ro, dSl_fz, dTuple_lst, dTuple_ro, dTuple_tup, dList_lst, dList_ro, dList_tup, dMin2_int, dMax2_int, dAbs_int, dEq_int, dNe_int, sCnt, sBrk, sNever, atI_0, atI_1, atI_2, sizeLine_eq, Option.bind_some, Option.map_some, Option.bind_none, Option.map_none, List.length_cons, List.length_nil, List.set_cons_zero, List.set_cons_succ, List.getElem?_cons_zero, List.getElem?_cons_succ, List.map_cons, List.map_nil, List.cons_append, List.nil_append, List.replicate, e2, dMul_int, hm]
  refine (mk_q (a1_q main)).trans ?_
  rw [dSumA_lst]
  have : (fun i : Nat => (seg as b e).getD i 0 * (i : Int)) = fun i : Nat => (i : Int) * (seg as b e).getD i 0 := by funext i; exact Int.mul_comm _ _
  rw [this, kp_range]
theorem lturn_1 {f k : Int} {as L : List Int} {e b : Nat} (ha : Rng 0 10000 as) (hl : as.length ≤ 60) (k0 : 0 ≤ k) (k1 : k ≤ 1000000) (he : e ≤ as.length) (hb : b < e) (hB : L.length = e) (o4 o5 o6 o7 o8 o9 o10 : Option DV) (S : List Int) (hS : S.length ≤ 1000) :
    b__law_least_1 [some (T as), some (.p (.int f)), some (.p (.int k)), some (.lst (L.map PV.int)), some (.p (.int (e : Nat))), some (.lst (S.map PV.int)), some (.p (.int (b : Nat))), o7, o8, o9, o10] =
      some (.nx [some (T as), some (.p (.int f)), some (.p (.int k)), some (.lst (L.map PV.int)), some (.p (.int (e : Nat))), some (.lst ((S ++ [rowC f k as L e b]).map PV.int)), some (.p (.int (b : Nat))), some (.p (.int (seg as b e).sum)), some (.p (.int (kp (seg as b e)))), o9, o10]) := by
  have hk := lkept_q ha hl (Nat.le_of_lt hb) he (some (.p (.int f))) (some (.p (.int k))) (some (.lst (L.map PV.int))) o4 (some (.lst (S.map PV.int))) o6 (some (.p (.int (seg as b e).sum))) o8 o9 o10
  have hm : ∀ z, mulOk k z = true := fun z => mulOk_l (by omega) (by omega)
  have hc := cut_seg as (Nat.le_of_lt hb) he
  have hL : (L.map PV.int)[b]? = some (.int (L.getD b 0)) := by rw [List.getElem?_map, getD_lt (by omega)]; rfl
  unfold b__law_least_1
  refine (seq_nx (e := [some (T as), some (.p (.int f)), some (.p (.int k)), some (.lst (L.map PV.int)), some (.p (.int (e : Nat))), some (.lst (S.map PV.int)), some (.p (.int (b : Nat))), some (.p (.int (seg as b e).sum)), o8, o9, o10]) ?_).trans ?_
  · simp [runF, modeOk, fin_cons, fin, startE, sSeq, sIf, sNext, sRet, sRetN, sDrop, sAsg, sSetI, sPar, gSets, gSet, gTup', gCons', gNil', DV.comps, tQ, tE, tNot', tAnd', tOr', qVar, qC, qOp, eOp, qUn, eUn, qMk, eMk, qIf, eIf, bQ, qAnd, qOr, qNot, qChain, DV.bool?, aNil, aCons, aeNil, aeCons, ofQ, eMove, g_zero, g_succ, DV.lend, DV.owned, DV.light, dIx_tup, dIx_lst, dIx_ro, dIx_fz, dIx_ml, dIx_mr, dIx_mt, dAdd_int, dSub_int, dNeg_int, dLt_int, dLe_int, dGt_int, dGe_int, dInt_int, dLen_tup, dLen_lst, dLen_ro, dLen_fz, mkT, mkL, pures, sAug, eAppend, isL, dAppend, dSetI, amQ, amE, eCallM, eCall, qCall, oNone, oSome, qSl, dSl_tup, dSl_lst, dSl_ro, dSl_fz, dTuple_lst, dTuple_ro, dTuple_tup, dList_lst, dList_ro, dList_tup, dMin2_int, dMax2_int, dAbs_int, dEq_int, dNe_int, sCnt, sBrk, sNever, atI_0, atI_1, atI_2, sizeLine_eq, Option.bind_some, Option.map_some, Option.bind_none, Option.map_none, List.length_cons, List.length_nil, List.set_cons_zero, List.set_cons_succ, List.getElem?_cons_zero, List.getElem?_cons_succ, List.map_cons, List.map_nil, List.cons_append, List.nil_append, List.replicate, hc, dSumA_tup]
  refine (seq_nx (asg_q hk rfl (by simp))).trans ?_
  simp only [List.set_cons_succ, List.set_cons_zero]
  have hr : rowC f k as L e b = L.getD b 0 + (if 0 < (seg as b e).sum then f else 0) + k * kp (seg as b e) := by
    unfold rowC cc; omega
  rw [List.getElem?_map] at hL
  by_cases hs : 0 < (seg as b e).sum
  · rw [if_pos hs] at hr
    simp [runF, modeOk, fin_cons, fin, startE, sSeq, sIf, sNext, sRet, sRetN, sDrop, sAsg, sSetI, sPar, gSets, gSet, gTup', gCons', gNil', DV.comps, tQ, tE, tNot', tAnd', tOr', qVar, qC, qOp, eOp, qUn, eUn, qMk, eMk, qIf, eIf, bQ, qAnd, qOr, qNot, qChain, DV.bool?, aNil, aCons, aeNil, aeCons, ofQ, eMove, g_zero, g_succ, DV.lend, DV.owned, DV.light, dIx_tup, dIx_lst, dIx_ro, dIx_fz, dIx_ml, dIx_mr, dIx_mt, dAdd_int, dSub_int, dNeg_int, dLt_int, dLe_int, dGt_int, dGe_int, dInt_int, dLen_tup, dLen_lst, dLen_ro, dLen_fz, mkT, mkL, pures, sAug, eAppend, isL, dAppend, dSetI, amQ, amE, eCallM, eCall, qCall, oNone, oSome, qSl, dSl_tup, dSl_lst, dSl_ro, dSl_fz, dTuple_lst, dTuple_ro, dTuple_tup, dList_lst, dList_ro, dList_tup, dMin2_int, dMax2_int, dAbs_int, dEq_int, dNe_int, sCnt, sBrk, sNever, atI_0, atI_1, atI_2, sizeLine_eq, Option.bind_some, Option.map_some, Option.bind_none, Option.map_none, List.length_cons, List.length_nil, List.set_cons_zero, List.set_cons_succ, List.getElem?_cons_zero, List.getElem?_cons_succ, List.map_cons, List.map_nil, List.cons_append, List.nil_append, List.replicate, Sm.atI_nat, hL, dMul_int, hm, hs, hr, -List.getD_eq_getElem?_getD]
    omega
  · rw [if_neg hs] at hr
    simp [runF, modeOk, fin_cons, fin, startE, sSeq, sIf, sNext, sRet, sRetN, sDrop, sAsg, sSetI, sPar, gSets, gSet, gTup', gCons', gNil', DV.comps, tQ, tE, tNot', tAnd', tOr', qVar, qC, qOp, eOp, qUn, eUn, qMk, eMk, qIf, eIf, bQ, qAnd, qOr, qNot, qChain, DV.bool?, aNil, aCons, aeNil, aeCons, ofQ, eMove, g_zero, g_succ, DV.lend, DV.owned, DV.light, dIx_tup, dIx_lst, dIx_ro, dIx_fz, dIx_ml, dIx_mr, dIx_mt, dAdd_int, dSub_int, dNeg_int, dLt_int, dLe_int, dGt_int, dGe_int, dInt_int, dLen_tup, dLen_lst, dLen_ro, dLen_fz, mkT, mkL, pures, sAug, eAppend, isL, dAppend, dSetI, amQ, amE, eCallM, eCall, qCall, oNone, oSome, qSl, dSl_tup, dSl_lst, dSl_ro, dSl_fz, dTuple_lst, dTuple_ro, dTuple_tup, dList_lst, dList_ro, dList_tup, dMin2_int, dMax2_int, dAbs_int, dEq_int, dNe_int, sCnt, sBrk, sNever, atI_0, atI_1, atI_2, sizeLine_eq, Option.bind_some, Option.map_some, Option.bind_none, Option.map_none, List.length_cons, List.length_nil, List.set_cons_zero, List.set_cons_succ, List.getElem?_cons_zero, List.getElem?_cons_succ, List.map_cons, List.map_nil, List.cons_append, List.nil_append, List.replicate, Sm.atI_nat, hL, dMul_int, hm, hs, hr, -List.getD_eq_getElem?_getD]
    omega
theorem lturn_2 {f k : Int} {as L : List Int} {e : Nat} (ha : Rng 0 10000 as) (hl : as.length ≤ 60) (k0 : 0 ≤ k) (k1 : k ≤ 1000000) (he : e ≤ as.length) (h0 : 0 < e) (hB : Bst f k as L) (hBl : L.length = e) (o4 o5 o6 o7 o8 o9 o10 : Option DV) :
    ∃ L' e', Bst f k as L' ∧ L'.length = e + 1 ∧ b__law_least_2 [some (T as), some (.p (.int f)), some (.p (.int k)), some (.lst (L.map PV.int)), some (.p (.int (e : Nat))), o5, o6, o7, o8, o9, o10] = some (.nx e') ∧ ∃ o5 o6 o7 o8 o9 o10, e' = [some (T as), some (.p (.int f)), some (.p (.int k)), some (.lst (L'.map PV.int)), some (.p (.int (e : Nat))), o5, o6, o7, o8, o9, o10] := by
  have r1 : rngOk (e : Int) = true := rngOk_of (by omega) (by omega)
  obtain ⟨e', l1, ⟨p6, p7, p8, p9, p10, rfl⟩⟩ := forL_run (t := gSet 6) (b := b__law_least_1) (fun i env => ∃ o6 o7 o8 o9 o10, env = [some (T as), some (.p (.int f)), some (.p (.int k)), some (.lst (L.map PV.int)), some (.p (.int (e : Nat))), some (.lst (((List.range i).map fun b => rowC f k as L e b).map PV.int)), o6, o7, o8, o9, o10]) (ds := rgD 0 e) (n := 0) (env := [some (T as), some (.p (.int f)), some (.p (.int k)), some (.lst (L.map PV.int)), some (.p (.int (e : Nat))), some (.lst []), o6, o7, o8, o9, o10]) ⟨o6, o7, o8, o9, o10, rfl⟩ (by
      rintro i d env hd ⟨o6, o7, o8, o9, o10, rfl⟩
      obtain ⟨hi, rfl⟩ := rgD_at hd
      have hi : i < e := by omega
      rw [Nat.zero_add, Int.zero_add]
      refine ⟨_, _, by simp only [gSet, List.length_cons, List.length_nil, List.set_cons_succ, List.set_cons_zero]; rfl, .inl (lturn_1 ha hl k0 k1 he hi hBl o4 o5 o6 o7 o8 o9 o10 _ (by simp; omega)), ?_⟩
      simp only [List.range_succ, List.map_append, List.map_cons, List.map_nil]
      exact ⟨_, _, _, _, _, rfl⟩)
  have hds : (rgD 0 e).length = e := by rw [rgD_length]; omega
  rw [Nat.zero_add, hds] at l1
  have hne : (List.range e).map (fun b => rowC f k as L e b) ≠ [] := by simp; omega
  obtain ⟨m, m1, m2, m3⟩ := dMin1_i hne
  obtain ⟨b, hb, rfl⟩ := List.mem_map.mp m1
  have hb : b < e := by simpa using hb
  have least : ∀ c, c < L.length → rowC f k as L e b ≤ L.getD c 0 + cc f k (seg as c L.length) := fun c hc => by
    have := m3 (rowC f k as L e c) (List.mem_map.mpr ⟨c, by simp; omega, rfl⟩)
    rw [hBl]; exact this
  have hB' := bst_snoc hB (by omega) (v := rowC f k as L e b) (b := b) (by omega) (by rw [hBl]; rfl) least
  refine ⟨L ++ [rowC f k as L e b], [some (T as), some (.p (.int f)), some (.p (.int k)), some (.lst ((L ++ [rowC f k as L e b]).map PV.int)), some (.p (.int (e : Nat))), some (.lst (((List.range e).map fun b => rowC f k as L e b).map PV.int)), p6, p7, p8, p9, p10], hB', by simp [hBl], ?_, _, _, _, _, _, _, rfl⟩
  unfold b__law_least_2
  refine (seq_nx (e := [some (T as), some (.p (.int f)), some (.p (.int k)), some (.lst (L.map PV.int)), some (.p (.int (e : Nat))), some (.lst []), o6, o7, o8, o9, o10]) ?_).trans ((for_nx l1 ?_).trans ?_)
  · simp [runF, modeOk, fin_cons, fin, startE, sSeq, sIf, sNext, sRet, sRetN, sDrop, sAsg, sSetI, sPar, gSets, gSet, gTup', gCons', gNil', DV.comps, tQ, tE, tNot', tAnd', tOr', qVar, qC, qOp, eOp, qUn, eUn, qMk, eMk, qIf, eIf, bQ, qAnd, qOr, qNot, qChain, DV.bool?, aNil, aCons, aeNil, aeCons, ofQ, eMove, g_zero, g_succ, DV.lend, DV.owned, DV.light, dIx_tup, dIx_lst, dIx_ro, dIx_fz, dIx_ml, dIx_mr, dIx_mt, dAdd_int, dSub_int, dNeg_int, dLt_int, dLe_int, dGt_int, dGe_int, dInt_int, dLen_tup, dLen_lst, dLen_ro, dLen_fz, mkT, mkL, pures, sAug, eAppend, isL, dAppend, dSetI, amQ, amE, eCallM, eCall, qCall, oNone, oSome, qSl, dSl_tup, dSl_lst, dSl_ro, dSl_fz, dTuple_lst, dTuple_ro, dTuple_tup, dList_lst, dList_ro, dList_tup, dMin2_int, dMax2_int, dAbs_int, dEq_int, dNe_int, sCnt, sBrk, sNever, atI_0, atI_1, atI_2, sizeLine_eq, Option.bind_some, Option.map_some, Option.bind_none, Option.map_none, List.length_cons, List.length_nil, List.set_cons_zero, List.set_cons_succ, List.getElem?_cons_zero, List.getElem?_cons_succ, List.map_cons, List.map_nil, List.cons_append, List.nil_append, List.replicate]
  · simp [fRng1, runF, modeOk, fin_cons, fin, startE, sSeq, sIf, sNext, sRet, sRetN, sDrop, sAsg, sSetI, sPar, gSets, gSet, gTup', gCons', gNil', DV.comps, tQ, tE, tNot', tAnd', tOr', qVar, qC, qOp, eOp, qUn, eUn, qMk, eMk, qIf, eIf, bQ, qAnd, qOr, qNot, qChain, DV.bool?, aNil, aCons, aeNil, aeCons, ofQ, eMove, g_zero, g_succ, DV.lend, DV.owned, DV.light, dIx_tup, dIx_lst, dIx_ro, dIx_fz, dIx_ml, dIx_mr, dIx_mt, dAdd_int, dSub_int, dNeg_int, dLt_int, dLe_int, dGt_int, dGe_int, dInt_int, dLen_tup, dLen_lst, dLen_ro, dLen_fz, mkT, mkL, pures, sAug, eAppend, isL, dAppend, dSetI, amQ, amE, eCallM, eCall, qCall, oNone, oSome, qSl, dSl_tup, dSl_lst, dSl_ro, dSl_fz, dTuple_lst, dTuple_ro, dTuple_tup, dList_lst, dList_ro, dList_tup, dMin2_int, dMax2_int, dAbs_int, dEq_int, dNe_int, sCnt, sBrk, sNever, atI_0, atI_1, atI_2, sizeLine_eq, Option.bind_some, Option.map_some, Option.bind_none, Option.map_none, List.length_cons, List.length_nil, List.set_cons_zero, List.set_cons_succ, List.getElem?_cons_zero, List.getElem?_cons_succ, List.map_cons, List.map_nil, List.cons_append, List.nil_append, List.replicate, r1]
  · have m2' : dMin1 [.ro (((List.range e).map fun b => rowC f k as L e b).map PV.int)] = some (.p (.int (rowC f k as L e b))) := m2
    simp only [sDrop, eAppend, ofQ, qMk, aCons, aNil, qVar, g_succ, g_zero, DV.lend, m2', Option.bind_some, Option.map_some]
    simp [runF, modeOk, fin_cons, fin, startE, sSeq, sIf, sNext, sRet, sRetN, sDrop, sAsg, sSetI, sPar, gSets, gSet, gTup', gCons', gNil', DV.comps, tQ, tE, tNot', tAnd', tOr', qVar, qC, qOp, eOp, qUn, eUn, qMk, eMk, qIf, eIf, bQ, qAnd, qOr, qNot, qChain, DV.bool?, aNil, aCons, aeNil, aeCons, ofQ, eMove, g_zero, g_succ, DV.lend, DV.owned, DV.light, dIx_tup, dIx_lst, dIx_ro, dIx_fz, dIx_ml, dIx_mr, dIx_mt, dAdd_int, dSub_int, dNeg_int, dLt_int, dLe_int, dGt_int, dGe_int, dInt_int, dLen_tup, dLen_lst, dLen_ro, dLen_fz, mkT, mkL, pures, sAug, eAppend, isL, dAppend, dSetI, amQ, amE, eCallM, eCall, qCall, oNone, oSome, qSl, dSl_tup, dSl_lst, dSl_ro, dSl_fz, dTuple_lst, dTuple_ro, dTuple_tup, dList_lst, dList_ro, dList_tup, dMin2_int, dMax2_int, dAbs_int, dEq_int, dNe_int, sCnt, sBrk, sNever, atI_0, atI_1, atI_2, sizeLine_eq, Option.bind_some, Option.map_some, Option.bind_none, Option.map_none, List.length_cons, List.length_nil, List.set_cons_zero, List.set_cons_succ, List.getElem?_cons_zero, List.getElem?_cons_succ, List.map_cons, List.map_nil, List.cons_append, List.nil_append, List.replicate]
    omega
theorem law_least_ok {f k : Int} {as : List Int} (ha : Rng 0 10000 as) (hl : as.length ≤ 60) (k0 : 0 ≤ k) (k1 : k ≤ 1000000) :
    ∃ L r, Bst f k as L ∧ L.length = as.length + 1 ∧ m__law_least [T as, .p (.int f), .p (.int k)] = some (.lst (L.map PV.int), r) := by
  have r1 : rngOk (1 : Int) = true := rngOk_of (by omega) (by omega)
  have r2 : rngOk ((as.length : Int) + 1) = true := rngOk_of (by omega) (by omega)
  obtain ⟨e', l1, L, o4, o5, o6, o7, o8, o9, o10, hB, hBl, rfl⟩ := forL_run (t := gSet 4) (b := b__law_least_2) (fun i env => ∃ L o4 o5 o6 o7 o8 o9 o10, Bst f k as L ∧ L.length = i + 1 ∧ env = [some (T as), some (.p (.int f)), some (.p (.int k)), some (.lst (L.map PV.int)), o4, o5, o6, o7, o8, o9, o10]) (ds := rgD 1 ((as.length : Int) + 1)) (n := 0) (env := [some (T as), some (.p (.int f)), some (.p (.int k)), some (.lst ([(0 : Int)].map PV.int)), none, none, none, none, none, none, none]) ⟨_, none, none, none, none, none, none, none, (best_0 f k as).bst, rfl, rfl⟩ (by
      rintro i d env hd ⟨L, o4, o5, o6, o7, o8, o9, o10, hB, hBl, rfl⟩
      obtain ⟨hi, rfl⟩ := rgD_at hd
      rw [Nat.zero_add] at hBl ⊢
      obtain ⟨L', e', b1, b2, b3, q5, q6, q7, q8, q9, q10, rfl⟩ := lturn_2 (e := i + 1) ha hl k0 k1 (by omega) (by omega) hB hBl none o5 o6 o7 o8 o9 o10
      have e1 : (1 : Int) + (i : Int) = ((i + 1 : Nat) : Int) := by omega
      rw [e1]
      exact ⟨_, _, by simp only [gSet, List.length_cons, List.length_nil, List.set_cons_succ, List.set_cons_zero]; rfl, .inl b3, L', _, _, _, _, _, _, _, b1, b2, rfl⟩)
  have hds : (rgD 1 ((as.length : Int) + 1)).length = as.length := by rw [rgD_length]; omega
  rw [Nat.zero_add, hds] at hBl
  refine ⟨L, [T as, .p (.int f), .p (.int k)], hB, hBl, run_rt (e := [some (T as), some (.p (.int f)), some (.p (.int k)), none, o4, o5, o6, o7, o8, o9, o10]) (by simp [modeOk, DV.light]) ?_ rfl⟩
  unfold b__law_least
  refine (seq_nx (e := [some (T as), some (.p (.int f)), some (.p (.int k)), some (.lst ([(0 : Int)].map PV.int)), none, none, none, none, none, none, none]) ?_).trans ((for_nx l1 ?_).trans ?_)
  · simp [runF, modeOk, fin_cons, fin, startE, sSeq, sIf, sNext, sRet, sRetN, sDrop, sAsg, sSetI, sPar, gSets, gSet, gTup', gCons', gNil', DV.comps, tQ, tE, tNot', tAnd', tOr', qVar, qC, qOp, eOp, qUn, eUn, qMk, eMk, qIf, eIf, bQ, qAnd, qOr, qNot, qChain, DV.bool?, aNil, aCons, aeNil, aeCons, ofQ, eMove, g_zero, g_succ, DV.lend, DV.owned, DV.light, dIx_tup, dIx_lst, dIx_ro, dIx_fz, dIx_ml, dIx_mr, dIx_mt, dAdd_int, dSub_int, dNeg_int, dLt_int, dLe_int, dGt_int, dGe_int, dInt_int, dLen_tup, dLen_lst, dLen_ro, dLen_fz, mkT, mkL, pures, sAug, eAppend, isL, dAppend, dSetI, amQ, amE, eCallM, eCall, qCall, oNone, oSome, qSl, dSl_tup, dSl_lst, dSl_ro, dSl_fz, dTuple_lst, dTuple_ro, dTuple_tup, dList_lst, dList_ro, dList_tup, dMin2_int, dMax2_int, dAbs_int, dEq_int, dNe_int, sCnt, sBrk, sNever, atI_0, atI_1, atI_2, sizeLine_eq, Option.bind_some, Option.map_some, Option.bind_none, Option.map_none, List.length_cons, List.length_nil, List.set_cons_zero, List.set_cons_succ, List.getElem?_cons_zero, List.getElem?_cons_succ, List.map_cons, List.map_nil, List.cons_append, List.nil_append, List.replicate]
  · simp [fRng2, runF, modeOk, fin_cons, fin, startE, sSeq, sIf, sNext, sRet, sRetN, sDrop, sAsg, sSetI, sPar, gSets, gSet, gTup', gCons', gNil', DV.comps, tQ, tE, tNot', tAnd', tOr', qVar, qC, qOp, eOp, qUn, eUn, qMk, eMk, qIf, eIf, bQ, qAnd, qOr, qNot, qChain, DV.bool?, aNil, aCons, aeNil, aeCons, ofQ, eMove, g_zero, g_succ, DV.lend, DV.owned, DV.light, dIx_tup, dIx_lst, dIx_ro, dIx_fz, dIx_ml, dIx_mr, dIx_mt, dAdd_int, dSub_int, dNeg_int, dLt_int, dLe_int, dGt_int, dGe_int, dInt_int, dLen_tup, dLen_lst, dLen_ro, dLen_fz, mkT, mkL, pures, sAug, eAppend, isL, dAppend, dSetI, amQ, amE, eCallM, eCall, qCall, oNone, oSome, qSl, dSl_tup, dSl_lst, dSl_ro, dSl_fz, dTuple_lst, dTuple_ro, dTuple_tup, dList_lst, dList_ro, dList_tup, dMin2_int, dMax2_int, dAbs_int, dEq_int, dNe_int, sCnt, sBrk, sNever, atI_0, atI_1, atI_2, sizeLine_eq, Option.bind_some, Option.map_some, Option.bind_none, Option.map_none, List.length_cons, List.length_nil, List.set_cons_zero, List.set_cons_succ, List.getElem?_cons_zero, List.getElem?_cons_succ, List.map_cons, List.map_nil, List.cons_append, List.nil_append, List.replicate, r1, r2]
  · simp [runF, modeOk, fin_cons, fin, startE, sSeq, sIf, sNext, sRet, sRetN, sDrop, sAsg, sSetI, sPar, gSets, gSet, gTup', gCons', gNil', DV.comps, tQ, tE, tNot', tAnd', tOr', qVar, qC, qOp, eOp, qUn, eUn, qMk, eMk, qIf, eIf, bQ, qAnd, qOr, qNot, qChain, DV.bool?, aNil, aCons, aeNil, aeCons, ofQ, eMove, g_zero, g_succ, DV.lend, DV.owned, DV.light, dIx_tup, dIx_lst, dIx_ro, dIx_fz, dIx_ml, dIx_mr, dIx_mt, dAdd_int, dSub_int, dNeg_int, dLt_int, dLe_int, dGt_int, dGe_int, dInt_int, dLen_tup, dLen_lst, dLen_ro, dLen_fz, mkT, mkL, pures, sAug, eAppend, isL, dAppend, dSetI, amQ, amE, eCallM, eCall, qCall, oNone, oSome, qSl, dSl_tup, dSl_lst, dSl_ro, dSl_fz, dTuple_lst, dTuple_ro, dTuple_tup, dList_lst, dList_ro, dList_tup, dMin2_int, dMax2_int, dAbs_int, dEq_int, dNe_int, sCnt, sBrk, sNever, atI_0, atI_1, atI_2, sizeLine_eq, Option.bind_some, Option.map_some, Option.bind_none, Option.map_none, List.length_cons, List.length_nil, List.set_cons_zero, List.set_cons_succ, List.getElem?_cons_zero, List.getElem?_cons_succ, List.map_cons, List.map_nil, List.cons_append, List.nil_append, List.replicate]
end k25G

set_option Elab.async false
set_option linter.all false
set_option maxRecDepth 100000
set_option maxHeartbeats 0
namespace k25G
open PySem PySem.Spec PyProof.Rows L2 Sm k25M
/-! the program's calls on lots -/
structure Lot (as : List Int) (f k : Int) : Prop where
  rng : Rng 0 10000 as
  len : as.length ≤ 60
  f0 : 0 ≤ f
  f1 : f ≤ 1000000
  k0 : 0 ≤ k
  k1 : k ≤ 1000000
theorem sum_le {b : Int} : ∀ {as : List Int}, (∀ x ∈ as, x ≤ b) → as.sum ≤ b * as.length
  | [], _ => by simp
  | x :: xs, h => by
    have h1 := h x (by simp)
    have h2 := sum_le (as := xs) fun y q => h y (by simp [q])
    rw [List.sum_cons, List.length_cons]
    have e : b * ((xs.length + 1 : Nat) : Int) = b * xs.length + b := by rw [Int.natCast_add, Int.mul_add]; simp
    rw [e]; omega
theorem Lot.nn {as : List Int} {f k : Int} (h : Lot as f k) : k25M.nn as := fun x hx => (h.rng x hx).1
theorem Lot.sum {as : List Int} {f k : Int} (h : Lot as f k) : as.sum ≤ 600000 := by
  have := sum_le (b := 10000) fun x hx => (h.rng x hx).2
  have := h.len
  omega
theorem sim_left (f k f' k' : Int) : ∀ (r : List (Int × Int)) (l t t' : Int), (sim f k l t r).1 = (sim f' k' l t' r).1
  | [], _, _, _ => rfl
  | (p, a) :: r, l, t, t' => by simp only [sim]; exact sim_left f k f' k' r _ _ _
/-- a plan that keeps all -/
structure PlanOk (as ps : List Int) : Prop where
  rng : Rng 0 600000 ps
  len : ps.length = as.length
  ok : okL 0 (ps.zip as)
  fin : (sim 0 0 0 0 (ps.zip as)).1 = 0
theorem cost_of_ok {as ps : List Int} {f k : Int} (h : Lot as f k) (p : PlanOk as ps) : ∃ r, m_cost_of [T as, .p (.int f), .p (.int k), T ps] = some (.p (.int (sim f k 0 0 (ps.zip as)).2), r) := by
  obtain ⟨r1, a⟩ := look_ok h.rng h.len h.f0 h.f1 h.k0 h.k1
  obtain ⟨r2, b⟩ := is_plan_ok (as := as) p.rng (by have := h.len; have := p.len; omega) p.len p.ok p.fin
  obtain ⟨r3, c⟩ := told_cost_ok (as := as) (ps := ps) (f := f) h.k0 h.k1
  exact ⟨[T as, .p (.int f), .p (.int k), T ps], by simp [m_cost_of, b_cost_of, runF, modeOk, fin_cons, fin, startE, sSeq, sIf, sNext, sRet, sRetN, sDrop, sAsg, sSetI, sPar, gSets, gSet, gTup', gCons', gNil', DV.comps, tQ, tE, tNot', tAnd', tOr', qVar, qC, qOp, eOp, qUn, eUn, qMk, eMk, qIf, eIf, bQ, qAnd, qOr, qNot, qChain, DV.bool?, aNil, aCons, aeNil, aeCons, ofQ, eMove, g_zero, g_succ, DV.lend, DV.owned, DV.light, dIx_tup, dIx_lst, dIx_ro, dIx_fz, dIx_ml, dIx_mr, dIx_mt, dAdd_int, dSub_int, dNeg_int, dLt_int, dLe_int, dGt_int, dGe_int, dInt_int, dLen_tup, dLen_lst, dLen_ro, dLen_fz, mkT, mkL, pures, sAug, eAppend, isL, dAppend, dSetI, amQ, amE, eCallM, eCall, qCall, oNone, oSome, qSl, dSl_tup, dSl_lst, dSl_ro, dSl_fz, dTuple_lst, dTuple_ro, dTuple_tup, dList_lst, dList_ro, dList_tup, dMin2_int, dMax2_int, dAbs_int, dEq_int, dNe_int, sCnt, sBrk, sNever, atI_0, atI_1, atI_2, sizeLine_eq, Option.bind_some, Option.map_some, Option.bind_none, Option.map_none, List.length_cons, List.length_nil, List.set_cons_zero, List.set_cons_succ, List.getElem?_cons_zero, List.getElem?_cons_succ, List.map_cons, List.map_nil, List.cons_append, List.nil_append, List.replicate, a, b, c]⟩
theorem lcost_ok {as ps : List Int} {f k : Int} (h : Lot as f k) (p : PlanOk as ps) : ∃ r, m__law_cost [T as, .p (.int f), .p (.int k), T ps] = some (.p (.int (sim f k 0 0 (ps.zip as)).2), r) :=
  law_cost_ok h.k0 h.k1 p.ok (by rw [sim_left f k 0 0 _ 0 0 0]; exact p.fin)
theorem best_ok {as : List Int} {f k : Int} (h : Lot as f k) {L : List Int} (hL : Bst f k as L) (hl : L.length = as.length + 1) :
    ∃ P r, PlanOk as P ∧ (sim f k 0 0 (P.zip as)).2 = L.getD as.length 0 ∧ m_told_best [T as, .p (.int f), .p (.int k)] = some (T P, r) := by
  obtain ⟨L', P, r, b1, b2, b3, b4⟩ := told_best_ok (f := f) h.rng h.len h.k0 h.k1
  have e := hL.uniq b1 (m := as.length) rfl (by omega) (by omega) as.length (Nat.le_refl _)
  have s := b3.sim 0
  have z0 := b1.zero
  rw [List.drop_zero] at s
  have hsum := h.sum
  refine ⟨P, r, ⟨fun x hx => ⟨b3.nn x hx, by have := b3.le x hx; omega⟩, by have := b3.len; omega, by have := b3.ok; rwa [List.drop_zero] at this, ?_⟩, ?_, b4⟩
  · rw [sim_left 0 0 f k _ 0 0 0, s]
  · rw [s, e]; simp only; omega
theorem best_plan_ok {as P : List Int} {f k : Int} (h : Lot as f k) {r : List DV} (hb : m_told_best [T as, .p (.int f), .p (.int k)] = some (T P, r)) : ∃ r, m_best_plan [T as, .p (.int f), .p (.int k)] = some (T P, r) := by
  obtain ⟨r1, a⟩ := look_ok h.rng h.len h.f0 h.f1 h.k0 h.k1
  exact ⟨[T as, .p (.int f), .p (.int k)], by simp [m_best_plan, b_best_plan, runF, modeOk, fin_cons, fin, startE, sSeq, sIf, sNext, sRet, sRetN, sDrop, sAsg, sSetI, sPar, gSets, gSet, gTup', gCons', gNil', DV.comps, tQ, tE, tNot', tAnd', tOr', qVar, qC, qOp, eOp, qUn, eUn, qMk, eMk, qIf, eIf, bQ, qAnd, qOr, qNot, qChain, DV.bool?, aNil, aCons, aeNil, aeCons, ofQ, eMove, g_zero, g_succ, DV.lend, DV.owned, DV.light, dIx_tup, dIx_lst, dIx_ro, dIx_fz, dIx_ml, dIx_mr, dIx_mt, dAdd_int, dSub_int, dNeg_int, dLt_int, dLe_int, dGt_int, dGe_int, dInt_int, dLen_tup, dLen_lst, dLen_ro, dLen_fz, mkT, mkL, pures, sAug, eAppend, isL, dAppend, dSetI, amQ, amE, eCallM, eCall, qCall, oNone, oSome, qSl, dSl_tup, dSl_lst, dSl_ro, dSl_fz, dTuple_lst, dTuple_ro, dTuple_tup, dList_lst, dList_ro, dList_tup, dMin2_int, dMax2_int, dAbs_int, dEq_int, dNe_int, sCnt, sBrk, sNever, atI_0, atI_1, atI_2, sizeLine_eq, Option.bind_some, Option.map_some, Option.bind_none, Option.map_none, List.length_cons, List.length_nil, List.set_cons_zero, List.set_cons_succ, List.getElem?_cons_zero, List.getElem?_cons_succ, List.map_cons, List.map_nil, List.cons_append, List.nil_append, List.replicate, a, hb]⟩
theorem least_cost_ok {as : List Int} {f k : Int} (h : Lot as f k) {L : List Int} (hL : Bst f k as L) (hl : L.length = as.length + 1) : ∃ r, m_least_cost [T as, .p (.int f), .p (.int k)] = some (.p (.int (L.getD as.length 0)), r) := by
  obtain ⟨r1, a⟩ := look_ok h.rng h.len h.f0 h.f1 h.k0 h.k1
  obtain ⟨P, r, b1, b2, b3⟩ := best_ok h hL hl
  obtain ⟨r3, c⟩ := told_cost_ok (as := as) (ps := P) (f := f) h.k0 h.k1
  rw [b2] at c
  exact ⟨[T as, .p (.int f), .p (.int k)], by simp [m_least_cost, b_least_cost, runF, modeOk, fin_cons, fin, startE, sSeq, sIf, sNext, sRet, sRetN, sDrop, sAsg, sSetI, sPar, gSets, gSet, gTup', gCons', gNil', DV.comps, tQ, tE, tNot', tAnd', tOr', qVar, qC, qOp, eOp, qUn, eUn, qMk, eMk, qIf, eIf, bQ, qAnd, qOr, qNot, qChain, DV.bool?, aNil, aCons, aeNil, aeCons, ofQ, eMove, g_zero, g_succ, DV.lend, DV.owned, DV.light, dIx_tup, dIx_lst, dIx_ro, dIx_fz, dIx_ml, dIx_mr, dIx_mt, dAdd_int, dSub_int, dNeg_int, dLt_int, dLe_int, dGt_int, dGe_int, dInt_int, dLen_tup, dLen_lst, dLen_ro, dLen_fz, mkT, mkL, pures, sAug, eAppend, isL, dAppend, dSetI, amQ, amE, eCallM, eCall, qCall, oNone, oSome, qSl, dSl_tup, dSl_lst, dSl_ro, dSl_fz, dTuple_lst, dTuple_ro, dTuple_tup, dList_lst, dList_ro, dList_tup, dMin2_int, dMax2_int, dAbs_int, dEq_int, dNe_int, sCnt, sBrk, sNever, atI_0, atI_1, atI_2, sizeLine_eq, Option.bind_some, Option.map_some, Option.bind_none, Option.map_none, List.length_cons, List.length_nil, List.set_cons_zero, List.set_cons_succ, List.getElem?_cons_zero, List.getElem?_cons_succ, List.map_cons, List.map_nil, List.cons_append, List.nil_append, List.replicate, a, b3, c, -List.getD_eq_getElem?_getD]⟩
theorem shows_ok {as P : List Int} {f k : Int} (h : Lot as f k) {r : List DV} (p : PlanOk as P) (hb : m_told_best [T as, .p (.int f), .p (.int k)] = some (T P, r)) : ∃ r, m_shows_best_plan [T as, .p (.int f), .p (.int k), T P] = some (.p (.bl true), r) := by
  obtain ⟨r1, a⟩ := look_ok h.rng h.len h.f0 h.f1 h.k0 h.k1
  obtain ⟨r2, b⟩ := is_plan_ok (as := as) p.rng (by have := h.len; have := p.len; omega) p.len p.ok p.fin
  obtain ⟨r3, c⟩ := told_cost_ok (as := as) (ps := P) (f := f) h.k0 h.k1
  exact ⟨[T as, .p (.int f), .p (.int k), T P], by simp [m_shows_best_plan, b_shows_best_plan, runF, modeOk, fin_cons, fin, startE, sSeq, sIf, sNext, sRet, sRetN, sDrop, sAsg, sSetI, sPar, gSets, gSet, gTup', gCons', gNil', DV.comps, tQ, tE, tNot', tAnd', tOr', qVar, qC, qOp, eOp, qUn, eUn, qMk, eMk, qIf, eIf, bQ, qAnd, qOr, qNot, qChain, DV.bool?, aNil, aCons, aeNil, aeCons, ofQ, eMove, g_zero, g_succ, DV.lend, DV.owned, DV.light, dIx_tup, dIx_lst, dIx_ro, dIx_fz, dIx_ml, dIx_mr, dIx_mt, dAdd_int, dSub_int, dNeg_int, dLt_int, dLe_int, dGt_int, dGe_int, dInt_int, dLen_tup, dLen_lst, dLen_ro, dLen_fz, mkT, mkL, pures, sAug, eAppend, isL, dAppend, dSetI, amQ, amE, eCallM, eCall, qCall, oNone, oSome, qSl, dSl_tup, dSl_lst, dSl_ro, dSl_fz, dTuple_lst, dTuple_ro, dTuple_tup, dList_lst, dList_ro, dList_tup, dMin2_int, dMax2_int, dAbs_int, dEq_int, dNe_int, sCnt, sBrk, sNever, atI_0, atI_1, atI_2, sizeLine_eq, Option.bind_some, Option.map_some, Option.bind_none, Option.map_none, List.length_cons, List.length_nil, List.set_cons_zero, List.set_cons_succ, List.getElem?_cons_zero, List.getElem?_cons_succ, List.map_cons, List.map_nil, List.cons_append, List.nil_append, List.replicate, a, b, c, hb]⟩
theorem plain_ok {as : List Int} {f k : Int} (h : Lot as f k) : PlanOk as as ∧ (sim f k 0 0 (as.zip as)).2 = f * (as.filter fun a => decide (0 < a)).length := by
  obtain ⟨a1, a2⟩ := sim_self f k as 0 h.nn
  refine ⟨⟨fun x hx => ⟨(h.rng x hx).1, by have := (h.rng x hx).2; omega⟩, rfl, a1, ?_⟩, ?_⟩
  · rw [sim_left 0 0 f k _ 0 0 0, a2]
  · rw [a2]; simp
theorem once_ok {x : Int} {xs : List Int} {f k : Int} (h : Lot (x :: xs) f k) : PlanOk (x :: xs) ((x :: xs).sum :: List.replicate xs.length 0) := by
  obtain ⟨a1, a2⟩ := sim_once 0 0 x xs 0 h.nn
  refine ⟨fun y hy => ?_, by simp, a1, a2⟩
  rcases List.mem_cons.mp hy with rfl | hy
  · exact ⟨h.nn.sum, h.sum⟩
  · rw [(List.mem_replicate.mp hy).2]; exact ⟨by decide, by decide⟩
end k25G

set_option Elab.async false
set_option linter.all false
set_option maxRecDepth 100000
set_option maxHeartbeats 0
namespace k25G
open PySem PySem.Spec PyProof.Rows L2 Sm k25M
/-! the law on plans -/
theorem asked_turn {m : Nat} {pot : DV} {high : Int} {A : List Int} (hp : PotOk m pot) (hm : m ≤ 100000000) (h1 : 1 ≤ high) (h2 : high ≤ 10001) (hl : A.length ≤ 1000) (o1 o2 o3 o4 o5 o6 o7 o8 o9 o10 o11 o12 : Option DV) :
    ∃ pot' x, PotOk (m + 2) pot' ∧ 0 ≤ x ∧ x < high ∧ b__law_is_plan_right_1 [some pot, o1, some (.p (.int high)), some (.lst (A.map PV.int)), o4, o5, o6, o7, o8, o9, o10, o11, o12] = some (.nx [some pot', o1, some (.p (.int high)), some (.lst ((A ++ [x]).map PV.int)), o4, o5, o6, o7, o8, o9, o10, o11, o12]) := by
  obtain ⟨v, pot1, t1, t2, t3, t4⟩ := take_e (q := qVar 2) (e := [some pot, o1, some (.p (.int high)), some (.lst (A.map PV.int)), o4, o5, o6, o7, o8, o9, o10, o11, o12]) hp (by omega) (u := high) h1 (by omega) (g_zero _ _) rfl
  obtain ⟨w, pot2, u1, u2, u3, u4⟩ := take_e (q := qC (.int 4)) (e := [some pot1, o1, some (.p (.int high)), some (.lst (A.map PV.int)), o4, o5, o6, o7, o8, o9, o10, o11, o12]) t4 (by omega) (u := 4) (by decide) (by decide) (g_zero _ _) rfl
  simp only [List.set_cons_zero] at t1 u1
  have hmul : ∀ b : Bool, mulOk v (if b = true then 1 else 0) = true := fun b => mulOk_r (by split <;> decide) (by split <;> decide)
  refine ⟨pot2, v * (if decide (0 < w) = true then 1 else 0), u4, ?_, ?_, ?_⟩
  · exact Int.mul_nonneg t2 (by split <;> decide)
  · split
    · omega
    · omega
  · unfold b__law_is_plan_right_1
    simp only [sDrop, eAppend, eOp, eMk, aeCons, aeNil, t1, u1, Option.bind_some, Option.map_some, dInt_int, q_of (q := qC (.int 0)) (d := .p (.int 0)) rfl rfl, dGt_int, dInt_bl, dMul_int (hmul _)]
    simp [runF, modeOk, fin_cons, fin, startE, sSeq, sIf, sNext, sRet, sRetN, sDrop, sAsg, sSetI, sPar, gSets, gSet, gTup', gCons', gNil', DV.comps, tQ, tE, tNot', tAnd', tOr', qVar, qC, qOp, eOp, qUn, eUn, qMk, eMk, qIf, eIf, bQ, qAnd, qOr, qNot, qChain, DV.bool?, aNil, aCons, aeNil, aeCons, ofQ, eMove, g_zero, g_succ, DV.lend, DV.owned, DV.light, dIx_tup, dIx_lst, dIx_ro, dIx_fz, dIx_ml, dIx_mr, dIx_mt, dAdd_int, dSub_int, dNeg_int, dLt_int, dLe_int, dGt_int, dGe_int, dInt_int, dLen_tup, dLen_lst, dLen_ro, dLen_fz, mkT, mkL, pures, sAug, eAppend, isL, dAppend, dSetI, amQ, amE, eCallM, eCall, qCall, oNone, oSome, qSl, dSl_tup, dSl_lst, dSl_ro, dSl_fz, dTuple_lst, dTuple_ro, dTuple_tup, dList_lst, dList_ro, dList_tup, dMin2_int, dMax2_int, dAbs_int, dEq_int, dNe_int, sCnt, sBrk, sNever, atI_0, atI_1, atI_2, sizeLine_eq, Option.bind_some, Option.map_some, Option.bind_none, Option.map_none, List.length_cons, List.length_nil, List.set_cons_zero, List.set_cons_succ, List.getElem?_cons_zero, List.getElem?_cons_succ, List.map_cons, List.map_nil, List.cons_append, List.nil_append, List.replicate]
    omega
theorem six_q : qOp dPow (qC (.int 10)) (qC (.int 6)) = qC (.int 1000000) := funext fun env => ((op_q (g := dPow) (a := qC (.int 10)) (b := qC (.int 6)) (env := env) rfl rfl).trans (dPow_int (by decide) (by decide +kernel))).trans (by simp [qC])
theorem lst_last {L : List Int} {n : Nat} (h : L.length = n + 1) : atI (L.map PV.int) (-1) = some (.int (L.getD n 0)) := by
  rw [Sm.atI_last, List.getLast?_map, List.getLast?_eq_getElem?, h]
  rw [Nat.add_sub_cancel, getD_lt (by omega)]; rfl
theorem good_T {xs : List Int} : (PV.tup (xs.map PV.int)).good = true := by
  simp only [PV.good, PV.sh]
  exact shs_iff.mpr fun x hx => by
    obtain ⟨i, _, rfl⟩ := List.mem_map.mp hx
    simp [PV.sh]
theorem dEq_lists (xs : List Int) : dEq (.ro (xs.map PV.int)) (.lst (xs.map PV.int)) = some (.p (.bl true)) := by
  have hs : PV.shs 0 (xs.map PV.int) = true := shs_iff.mpr fun x hx => by
    obtain ⟨i, _, rfl⟩ := List.mem_map.mp hx
    simp [PV.sh]
  obtain ⟨a, b⟩ := shs_ok hs
  have hsh : SeqAt.shaped (.list (PV.toDs (xs.map PV.int))) = true := by
    simp [SeqAt.shaped, PyData.canLay0, PyData.depth, a]
    omega
  simp only [dEq, DV.toD?, Option.bind_some, hsh, Bool.and_self, if_true]
  simp [PyData.eqv, eqvs_self]
theorem posn_q {as : List Int} (hl : as.length ≤ 60) (o0 o1 o2 o3 o4 o5 o6 o7 o8 o9 o10 o11 o12 : Option DV) : qMk dLen (aCons (qCompL [12] (fSeqQ (qVar 3)) (gSet 12) (bQ (qOp dGt (qVar 12) (qC (.int 0)))) (qC (.int 1))) (aNil)) [o0, o1, o2, some (T as), o4, o5, o6, o7, o8, o9, o10, o11, o12] = some (.p (.int (as.filter fun a => decide (0 < a)).length)) := by
  have main : qCompL [12] (fSeqQ (qVar 3)) (gSet 12) (bQ (qOp dGt (qVar 12) (qC (.int 0)))) (qC (.int 1)) [o0, o1, o2, some (T as), o4, o5, o6, o7, o8, o9, o10, o11, o12] = some (.lst ((as.filter fun a => decide (0 < a)).map fun _ => PV.int 1)) := by
    refine qCompL_ok (fun i => .p (.int i)) (fun a => decide (0 < a)) (fun _ => .int 1) (xs := as) ?_ (le_size (by omega)) fun x hx => ⟨_, rfl, by simp [lendE, wipeE], ?_, fun _ => rfl⟩
    · simp [fSeqQ, runF, modeOk, fin_cons, fin, startE, sSeq, sIf, sNext, sRet, sRetN, sDrop, sAsg, sSetI, sPar, gSets, gSet, gTup', gCons', gNil', DV.comps, tQ, tE, tNot', tAnd', tOr', qVar, qC, qOp, eOp, qUn, eUn, qMk, eMk, qIf, eIf, bQ, qAnd, qOr, qNot, qChain, DV.bool?, aNil, aCons, aeNil, aeCons, ofQ, eMove, g_zero, g_succ, DV.lend, DV.owned, DV.light, dIx_tup, dIx_lst, dIx_ro, dIx_fz, dIx_ml, dIx_mr, dIx_mt, dAdd_int, dSub_int, dNeg_int, dLt_int, dLe_int, dGt_int, dGe_int, dInt_int, dLen_tup, dLen_lst, dLen_ro, dLen_fz, mkT, mkL, pures, sAug, eAppend, isL, dAppend, dSetI, amQ, amE, eCallM, eCall, qCall, oNone, oSome, qSl, dSl_tup, dSl_lst, dSl_ro, dSl_fz, dTuple_lst, dTuple_ro, dTuple_tup, dList_lst, dList_ro, dList_tup, dMin2_int, dMax2_int, dAbs_int, dEq_int, dNe_int, sCnt, sBrk, sNever, atI_0, atI_1, atI_2, sizeLine_eq, Option.bind_some, Option.map_some, Option.bind_none, Option.map_none, List.length_cons, List.length_nil, List.set_cons_zero, List.set_cons_succ, List.getElem?_cons_zero, List.getElem?_cons_succ, List.map_cons, List.map_nil, List.cons_append, List.nil_append, List.replicate, DV.itm]
    · simp [runF, modeOk, fin_cons, fin, startE, sSeq, sIf, sNext, sRet, sRetN, sDrop, sAsg, sSetI, sPar, gSets, gSet, gTup', gCons', gNil', DV.comps, tQ, tE, tNot', tAnd', tOr', qVar, qC, qOp, eOp, qUn, eUn, qMk, eMk, qIf, eIf, bQ, qAnd, qOr, qNot, qChain, DV.bool?, aNil, aCons, aeNil, aeCons, ofQ, eMove, g_zero, g_succ, DV.lend, DV.owned, DV.light, dIx_tup, dIx_lst, dIx_ro, dIx_fz, dIx_ml, dIx_mr, dIx_mt, dAdd_int, dSub_int, dNeg_int, dLt_int, dLe_int, dGt_int, dGe_int, dInt_int, dLen_tup, dLen_lst, dLen_ro, dLen_fz, mkT, mkL, pures, sAug, eAppend, isL, dAppend, dSetI, amQ, amE, eCallM, eCall, qCall, oNone, oSome, qSl, dSl_tup, dSl_lst, dSl_ro, dSl_fz, dTuple_lst, dTuple_ro, dTuple_tup, dList_lst, dList_ro, dList_tup, dMin2_int, dMax2_int, dAbs_int, dEq_int, dNe_int, sCnt, sBrk, sNever, atI_0, atI_1, atI_2, sizeLine_eq, Option.bind_some, Option.map_some, Option.bind_none, Option.map_none, List.length_cons, List.length_nil, List.set_cons_zero, List.set_cons_succ, List.getElem?_cons_zero, List.getElem?_cons_succ, List.map_cons, List.map_nil, List.cons_append, List.nil_append, List.replicate, lendE, wipeE]
  refine (mk_q (a1_q main)).trans ?_
  rw [dLen_lst, List.length_map]
theorem pair_q (x y : Int) : qMk mkL (aCons (qC (.int x)) (aCons (qC (.int y)) (aNil))) = fun _ => some (.lst [.int x, .int y]) := funext fun env => by
  simp [qMk, aCons, aNil, qC, mkL, pures, sizeLine_eq]
theorem asked_drawn {m : Nat} {pot : DV} {most high : Int} (hp : PotOk m pot) (hm : m ≤ 1000000) (hq0 : 0 ≤ most) (hq : most ≤ 60) (h1 : 1 ≤ high) (h2 : high ≤ 10001) (o4 : Option DV) (o5 o6 o7 o8 o9 o10 o11 o12 : Option DV) :
    ∃ pot1 as p4, PotOk (m + 130) pot1 ∧ as.length ≤ 60 ∧ Rng 0 10000 as ∧ ∀ c : Bk, sSeq (sFor (fRng1 (aeCons (eCallM m__law_take 0 (amQ 0 (aCons (qOp dAdd (qVar 1) (qC (.int 1))) (aNil)))) (aeNil))) (gSet 4) b__law_is_plan_right_1) c [some pot, some (.p (.int most)), some (.p (.int high)), some (.lst []), o4, o5, o6, o7, o8, o9, o10, o11, o12] = c [some pot1, some (.p (.int most)), some (.p (.int high)), some (.lst (as.map PV.int)), p4, o5, o6, o7, o8, o9, o10, o11, o12] := by
  obtain ⟨v, pot0, t1, t2, t3, t4⟩ := take_e (q := qOp dAdd (qVar 1) (qC (.int 1))) (e := [some pot, some (.p (.int most)), some (.p (.int high)), some (.lst []), o4, o5, o6, o7, o8, o9, o10, o11, o12]) hp (by omega) (u := most + 1) (by omega) (by omega) (g_zero _ _) rfl
  simp only [List.set_cons_zero] at t1
  obtain ⟨n, rfl⟩ := Int.eq_ofNat_of_zero_le t2
  have r1 : rngOk (n : Int) = true := rngOk_of (by omega) (by omega)
  obtain ⟨e', l1, pot1, A, p4, hP, hA, hR, rfl⟩ := forL_run (t := gSet 4) (b := b__law_is_plan_right_1) (fun i env => ∃ pot A p4, PotOk (m + 1 + 2 * i) pot ∧ A.length = i ∧ Rng 0 10000 A ∧ env = [some pot, some (.p (.int most)), some (.p (.int high)), some (.lst (A.map PV.int)), p4, o5, o6, o7, o8, o9, o10, o11, o12]) (ds := rgD 0 (n : Int)) (n := 0) (env := [some pot0, some (.p (.int most)), some (.p (.int high)), some (.lst []), o4, o5, o6, o7, o8, o9, o10, o11, o12]) ⟨pot0, [], o4, t4, rfl, fun x hx => (nomatch hx), rfl⟩ (by
      rintro i d env hd ⟨pot, A, p4, hP, hA, hR, rfl⟩
      obtain ⟨hi, rfl⟩ := rgD_at hd
      rw [Nat.zero_add] at hP hA ⊢
      obtain ⟨pot', x, b1, b2, b3, b4⟩ := asked_turn (A := A) hP (by omega) h1 h2 (by omega) (some (.p (.int most))) none none (some (.p (.int (0 + (i : Nat))))) o5 o6 o7 o8 o9 o10 o11 o12
      refine ⟨_, _, by simp only [gSet, List.length_cons, List.length_nil, List.set_cons_succ, List.set_cons_zero]; rfl, .inl b4, pot', A ++ [x], _, b1.mono (by omega), by simp [hA], ?_, rfl⟩
      intro y hy
      rcases List.mem_append.mp hy with hy | hy
      · exact hR y hy
      · rw [List.mem_singleton.mp hy]; omega)
  have hds : (rgD 0 (n : Int)).length = n := by rw [rgD_length]; omega
  rw [Nat.zero_add, hds] at hP hA
  refine ⟨pot1, A, p4, hP.mono (by omega), by omega, hR, fun c => for_nx l1 ?_⟩
  simp only [fRng1, aeCons, aeNil, t1, Option.bind_some, Option.map_some]
  simp [r1]
theorem plan_right_ok {m : Nat} {pot : DV} {most high : Int} (hp : PotOk m pot) (hm : m ≤ 1000000) (hq0 : 0 ≤ most) (hq : most ≤ 60) (h1 : 1 ≤ high) (h2 : high ≤ 10001) :
    ∃ pot', PotOk (m + 140) pot' ∧ m__law_is_plan_right [pot, .p (.int most), .p (.int high)] = some (.p (.bl true), [pot', .p (.int most), .p (.int high)]) := by
  obtain ⟨pot1, as, p4, hP1, hl, hr, s1⟩ := asked_drawn hp hm hq0 hq h1 h2 none none none none none none none none none
  obtain ⟨f, pot2, f1, f2, f3, hP2⟩ := take_of (x := 50) (y := 1000000) (m := 1000000) (e := [some pot1, some (.p (.int most)), some (.p (.int high)), some (T as), p4, none, none, none, none, none, none, none, none]) (q := qMk mkL (aCons (qC (.int 50)) (aCons (qC (.int 1000000)) (aNil)))) hP1 (by omega) (by decide) (by decide) (by decide) (by decide) (by decide) (by simp) (g_zero _ _) (by rw [pair_q])
  simp only [List.set_cons_zero] at f1
  obtain ⟨k, pot3, k1, k2, k3, hP3⟩ := take_of (x := 4) (y := 900) (m := 900) (e := [some pot2, some (.p (.int most)), some (.p (.int high)), some (T as), p4, none, none, none, none, none, none, none, none]) (q := qMk mkL (aCons (qC (.int 4)) (aCons (qC (.int 900)) (aNil)))) hP2 (by omega) (by decide) (by decide) (by decide) (by decide) (by decide) (by simp) (g_zero _ _) (by rw [pair_q])
  simp only [List.set_cons_zero] at k1
  have hL : Lot as f k := ⟨hr, hl, f2, by omega, k2, by omega⟩
  obtain ⟨L, r1, b1, b2, b3⟩ := law_least_ok (f := f) hr hl k2 (by omega)
  obtain ⟨P, r2, c1, c2, c3⟩ := best_ok hL b1 b2
  obtain ⟨r3, c4⟩ := best_plan_ok hL c3
  obtain ⟨r4, c5⟩ := least_cost_ok hL b1 b2
  obtain ⟨r5, c6⟩ := lcost_ok hL c1
  obtain ⟨r6, c7⟩ := cost_of_ok hL c1
  obtain ⟨r7, c8⟩ := shows_ok hL c1 c3
  obtain ⟨d1, d2⟩ := plain_ok hL
  obtain ⟨r8, d3⟩ := cost_of_ok hL d1
  rw [c2] at c6 c7
  rw [d2] at d3
  have hlast := lst_last b2
  generalize hv : L.getD as.length 0 = v at c5 c6 c7 hlast
  have hpos := posn_q hl (some pot3) (some (.p (.int most))) (some (.p (.int high))) none p4 (some (T as)) none (some (.p (.int f))) (some (.p (.int k))) (some (.lst (L.map PV.int))) (some (T P)) none none
  have hmul : mulOk f ((as.filter fun a => decide (0 < a)).length : Int) = true := mulOk_l (by omega) (by omega)
  -- all at once
  have s10 : ∃ p11, (sIf (tQ (qOp dNe (qVar 3) (qMk mkT (aNil)))) (sSeq (sAsg (ofQ (qOp dAdd (qMk mkT (aCons (qMk dSumA (aCons (qVar 3) (aNil))) (aNil))) (qOp dMulT (qMk mkT (aCons (qC (.int 0)) (aNil))) (qOp dSub (qMk dLen (aCons (qVar 3) (aNil))) (qC (.int 1)))))) (gSet 11)) (sIf (tQ (qOp dNe (qCall m_cost_of (aCons (qVar 3) (aCons (qVar 7) (aCons (qVar 8) (aCons (qVar 11) (aNil)))))) (qCall m__law_cost (aCons (qVar 3) (aCons (qVar 7) (aCons (qVar 8) (aCons (qVar 11) (aNil)))))))) (sRet (ofQ (qC (.bl false)))) (sNext))) (sNext))
      [some pot3, some (.p (.int most)), some (.p (.int high)), some (T as), p4, some (T as), none, some (.p (.int f)), some (.p (.int k)), some (.lst (L.map PV.int)), some (T P), none, none] = some (.nx [some pot3, some (.p (.int most)), some (.p (.int high)), some (T as), p4, some (T as), none, some (.p (.int f)), some (.p (.int k)), some (.lst (L.map PV.int)), some (T P), p11, none]) := by
    have hnil := dNe_nil (good_T (xs := as))
    cases as with
    | nil => exact ⟨none, by simp [runF, modeOk, fin_cons, fin, startE, sSeq, sIf, sNext, sRet, sRetN, sDrop, sAsg, sSetI, sPar, gSets, gSet, gTup', gCons', gNil', DV.comps, tQ, tE, tNot', tAnd', tOr', qVar, qC, qOp, eOp, qUn, eUn, qMk, eMk, qIf, eIf, bQ, qAnd, qOr, qNot, qChain, DV.bool?, aNil, aCons, aeNil, aeCons, ofQ, eMove, g_zero, g_succ, DV.lend, DV.owned, DV.light, dIx_tup, dIx_lst, dIx_ro, dIx_fz, dIx_ml, dIx_mr, dIx_mt, dAdd_int, dSub_int, dNeg_int, dLt_int, dLe_int, dGt_int, dGe_int, dInt_int, dLen_tup, dLen_lst, dLen_ro, dLen_fz, mkT, mkL, pures, sAug, eAppend, isL, dAppend, dSetI, amQ, amE, eCallM, eCall, qCall, oNone, oSome, qSl, dSl_tup, dSl_lst, dSl_ro, dSl_fz, dTuple_lst, dTuple_ro, dTuple_tup, dList_lst, dList_ro, dList_tup, dMin2_int, dMax2_int, dAbs_int, dEq_int, dNe_int, sCnt, sBrk, sNever, atI_0, atI_1, atI_2, sizeLine_eq, Option.bind_some, Option.map_some, Option.bind_none, Option.map_none, List.length_cons, List.length_nil, List.set_cons_zero, List.set_cons_succ, List.getElem?_cons_zero, List.getElem?_cons_succ, List.map_cons, List.map_nil, List.cons_append, List.nil_append, List.replicate, show dNe (.p (.tup [])) (.p (.tup [])) = some (.p (.bl false)) from dNe_self (good_T (xs := []))]⟩
    | cons x xs =>
      have o1 := once_ok hL
      obtain ⟨r9, e1⟩ := cost_of_ok hL o1
      obtain ⟨r10, e2⟩ := lcost_ok hL o1
      have hrep : (List.replicate xs.length [PV.int 0]).flatten = (List.replicate xs.length (0 : Int)).map PV.int := by
        rw [List.map_replicate]
        induction xs.length with
        | zero => rfl
        | succ n ih => simp [List.replicate_succ, ih]
      have hlg : lg 9 (xs.length : Int) = true := lg_of (by simp at hl; omega) (by decide)
      have hmt : dMulT (.p (.tup [.int 0])) (.p (.int xs.length)) = some (T (List.replicate xs.length 0)) := by
        simp [dMulT, hlg, hrep]
      have hsum := dSumA_tup (x :: xs)
      refine ⟨some (T ((x :: xs).sum :: List.replicate xs.length 0)), ?_⟩
      refine (if_t (e := [some pot3, some (.p (.int most)), some (.p (.int high)), some (T (x :: xs)), p4, some (T (x :: xs)), none, some (.p (.int f)), some (.p (.int k)), some (.lst (L.map PV.int)), some (T P), none, none]) (t_q ((op_q (g := dNe) (x := T (x :: xs)) (y := .p (.tup [])) rfl (by simp [runF, modeOk, fin_cons, fin, startE, sSeq, sIf, sNext, sRet, sRetN, sDrop, sAsg, sSetI, sPar, gSets, gSet, gTup', gCons', gNil', DV.comps, tQ, tE, tNot', tAnd', tOr', qVar, qC, qOp, eOp, qUn, eUn, qMk, eMk, qIf, eIf, bQ, qAnd, qOr, qNot, qChain, DV.bool?, aNil, aCons, aeNil, aeCons, ofQ, eMove, g_zero, g_succ, DV.lend, DV.owned, DV.light, dIx_tup, dIx_lst, dIx_ro, dIx_fz, dIx_ml, dIx_mr, dIx_mt, dAdd_int, dSub_int, dNeg_int, dLt_int, dLe_int, dGt_int, dGe_int, dInt_int, dLen_tup, dLen_lst, dLen_ro, dLen_fz, mkT, mkL, pures, sAug, eAppend, isL, dAppend, dSetI, amQ, amE, eCallM, eCall, qCall, oNone, oSome, qSl, dSl_tup, dSl_lst, dSl_ro, dSl_fz, dTuple_lst, dTuple_ro, dTuple_tup, dList_lst, dList_ro, dList_tup, dMin2_int, dMax2_int, dAbs_int, dEq_int, dNe_int, sCnt, sBrk, sNever, atI_0, atI_1, atI_2, sizeLine_eq, Option.bind_some, Option.map_some, Option.bind_none, Option.map_none, List.length_cons, List.length_nil, List.set_cons_zero, List.set_cons_succ, List.getElem?_cons_zero, List.getElem?_cons_succ, List.map_cons, List.map_nil, List.cons_append, List.nil_append, List.replicate])).trans hnil))).trans ?_
      have e3 : qOp dAdd (qMk mkT (aCons (qMk dSumA (aCons (qVar 3) (aNil))) (aNil))) (qOp dMulT (qMk mkT (aCons (qC (.int 0)) (aNil))) (qOp dSub (qMk dLen (aCons (qVar 3) (aNil))) (qC (.int 1)))) [some pot3, some (.p (.int most)), some (.p (.int high)), some (T (x :: xs)), p4, some (T (x :: xs)), none, some (.p (.int f)), some (.p (.int k)), some (.lst (L.map PV.int)), some (T P), none, none] = some (T ((x :: xs).sum :: List.replicate xs.length 0)) := by
        refine (op_q (x := .p (.tup [.int (x :: xs).sum])) (y := T (List.replicate xs.length 0)) ?_ ?_).trans ?_
        · refine (mk_q (a1_q ((mk_q (a1_q (x := T (x :: xs)) rfl)).trans hsum))).trans ?_
          simp [mkT, pures, sizeLine_eq]
        · refine (op_q (x := .p (.tup [.int 0])) (y := .p (.int xs.length)) ?_ ?_).trans hmt
          · simp [runF, modeOk, fin_cons, fin, startE, sSeq, sIf, sNext, sRet, sRetN, sDrop, sAsg, sSetI, sPar, gSets, gSet, gTup', gCons', gNil', DV.comps, tQ, tE, tNot', tAnd', tOr', qVar, qC, qOp, eOp, qUn, eUn, qMk, eMk, qIf, eIf, bQ, qAnd, qOr, qNot, qChain, DV.bool?, aNil, aCons, aeNil, aeCons, ofQ, eMove, g_zero, g_succ, DV.lend, DV.owned, DV.light, dIx_tup, dIx_lst, dIx_ro, dIx_fz, dIx_ml, dIx_mr, dIx_mt, dAdd_int, dSub_int, dNeg_int, dLt_int, dLe_int, dGt_int, dGe_int, dInt_int, dLen_tup, dLen_lst, dLen_ro, dLen_fz, mkT, mkL, pures, sAug, eAppend, isL, dAppend, dSetI, amQ, amE, eCallM, eCall, qCall, oNone, oSome, qSl, dSl_tup, dSl_lst, dSl_ro, dSl_fz, dTuple_lst, dTuple_ro, dTuple_tup, dList_lst, dList_ro, dList_tup, dMin2_int, dMax2_int, dAbs_int, dEq_int, dNe_int, sCnt, sBrk, sNever, atI_0, atI_1, atI_2, sizeLine_eq, Option.bind_some, Option.map_some, Option.bind_none, Option.map_none, List.length_cons, List.length_nil, List.set_cons_zero, List.set_cons_succ, List.getElem?_cons_zero, List.getElem?_cons_succ, List.map_cons, List.map_nil, List.cons_append, List.nil_append, List.replicate]
          · simp [runF, modeOk, fin_cons, fin, startE, sSeq, sIf, sNext, sRet, sRetN, sDrop, sAsg, sSetI, sPar, gSets, gSet, gTup', gCons', gNil', DV.comps, tQ, tE, tNot', tAnd', tOr', qVar, qC, qOp, eOp, qUn, eUn, qMk, eMk, qIf, eIf, bQ, qAnd, qOr, qNot, qChain, DV.bool?, aNil, aCons, aeNil, aeCons, ofQ, eMove, g_zero, g_succ, DV.lend, DV.owned, DV.light, dIx_tup, dIx_lst, dIx_ro, dIx_fz, dIx_ml, dIx_mr, dIx_mt, dAdd_int, dSub_int, dNeg_int, dLt_int, dLe_int, dGt_int, dGe_int, dInt_int, dLen_tup, dLen_lst, dLen_ro, dLen_fz, mkT, mkL, pures, sAug, eAppend, isL, dAppend, dSetI, amQ, amE, eCallM, eCall, qCall, oNone, oSome, qSl, dSl_tup, dSl_lst, dSl_ro, dSl_fz, dTuple_lst, dTuple_ro, dTuple_tup, dList_lst, dList_ro, dList_tup, dMin2_int, dMax2_int, dAbs_int, dEq_int, dNe_int, sCnt, sBrk, sNever, atI_0, atI_1, atI_2, sizeLine_eq, Option.bind_some, Option.map_some, Option.bind_none, Option.map_none, List.length_cons, List.length_nil, List.set_cons_zero, List.set_cons_succ, List.getElem?_cons_zero, List.getElem?_cons_succ, List.map_cons, List.map_nil, List.cons_append, List.nil_append, List.replicate]
        · rw [add_tup, if_pos (le_size (by simp at hl ⊢; omega))]
          rfl
      refine (seq_nx (asg_q e3 rfl (by simp))).trans ?_
      simp only [List.set_cons_succ, List.set_cons_zero]
      refine (if_f (t_q ((op_q (call_q (m := m_cost_of) (ds := [T (x :: xs), .p (.int f), .p (.int k), T ((x :: xs).sum :: List.replicate xs.length 0)]) rfl e1) (call_q (m := m__law_cost) (ds := [T (x :: xs), .p (.int f), .p (.int k), T ((x :: xs).sum :: List.replicate xs.length 0)]) rfl e2)).trans (dNe_self (good_int _))))).trans rfl
  obtain ⟨p11, s10⟩ := s10
  obtain ⟨at_, pot4, t1, t2, t3, hP4⟩ := take_e (q := qOp dAdd (qMk dLen (aCons (qVar 3) (aNil))) (qC (.int 1))) (e := [some pot3, some (.p (.int most)), some (.p (.int high)), some (T as), p4, some (T as), none, some (.p (.int f)), some (.p (.int k)), some (.lst (L.map PV.int)), some (T P), p11, none]) hP3 (by omega) (u := (as.length : Int) + 1) (by omega) (by omega) (g_zero _ _) (by simp [runF, modeOk, fin_cons, fin, startE, sSeq, sIf, sNext, sRet, sRetN, sDrop, sAsg, sSetI, sPar, gSets, gSet, gTup', gCons', gNil', DV.comps, tQ, tE, tNot', tAnd', tOr', qVar, qC, qOp, eOp, qUn, eUn, qMk, eMk, qIf, eIf, bQ, qAnd, qOr, qNot, qChain, DV.bool?, aNil, aCons, aeNil, aeCons, ofQ, eMove, g_zero, g_succ, DV.lend, DV.owned, DV.light, dIx_tup, dIx_lst, dIx_ro, dIx_fz, dIx_ml, dIx_mr, dIx_mt, dAdd_int, dSub_int, dNeg_int, dLt_int, dLe_int, dGt_int, dGe_int, dInt_int, dLen_tup, dLen_lst, dLen_ro, dLen_fz, mkT, mkL, pures, sAug, eAppend, isL, dAppend, dSetI, amQ, amE, eCallM, eCall, qCall, oNone, oSome, qSl, dSl_tup, dSl_lst, dSl_ro, dSl_fz, dTuple_lst, dTuple_ro, dTuple_tup, dList_lst, dList_ro, dList_tup, dMin2_int, dMax2_int, dAbs_int, dEq_int, dNe_int, sCnt, sBrk, sNever, atI_0, atI_1, atI_2, sizeLine_eq, Option.bind_some, Option.map_some, Option.bind_none, Option.map_none, List.length_cons, List.length_nil, List.set_cons_zero, List.set_cons_succ, List.getElem?_cons_zero, List.getElem?_cons_succ, List.map_cons, List.map_nil, List.cons_append, List.nil_append, List.replicate])
  simp only [List.set_cons_zero] at t1
  obtain ⟨n, rfl⟩ := Int.eq_ofNat_of_zero_le t2
  have hn : n ≤ as.length := by omega
  have hL2 : Lot (as.take n) f k := ⟨fun x hx => hr x (List.mem_of_mem_take hx), by simp; omega, hL.f0, hL.f1, hL.k0, hL.k1⟩
  obtain ⟨L2, _, bb1, bb2, _⟩ := law_least_ok (f := f) hL2.rng hL2.len k2 (by omega)
  have hl2 : (as.take n).length = n := by simp; omega
  have u1 := bb1.uniq b1 (m := n) (by rw [List.take_take, Nat.min_self]) (by omega) (by omega) n (Nat.le_refl _)
  obtain ⟨r11, g1⟩ := least_cost_ok hL2 bb1 bb2
  rw [hl2, u1] at g1
  have hat : atI (L.map PV.int) ((n : Nat) : Int) = some (.int (L.getD n 0)) := by
    rw [Sm.atI_nat, List.getElem?_map, getD_lt (by omega)]; rfl
  have hcut : cutL (as.map PV.int) none (some ((n : Nat) : Int)) = (as.take n).map PV.int := by rw [cutL_hi, List.map_take]
  have hsrt : dSorted [.ro (L.map PV.int)] = some (.lst (L.map PV.int)) := dSorted_le (b1.pair hL.f0 hL.k0 hL.nn b2)
  refine ⟨pot4, hP4.mono (by omega), run_rt (e := [some pot4, some (.p (.int most)), some (.p (.int high)), some (T as), p4, some (T as), some (.p (.int n)), some (.p (.int f)), some (.p (.int k)), some (.lst (L.map PV.int)), some (T P), p11, none]) (by simp [modeOk, DV.light]) ?_ rfl⟩
  unfold b__law_is_plan_right
  rw [six_q]
  refine (seq_nx (e := [some pot, some (.p (.int most)), some (.p (.int high)), some (.lst []), none, none, none, none, none, none, none, none, none]) (by simp [runF, modeOk, fin_cons, fin, startE, sSeq, sIf, sNext, sRet, sRetN, sDrop, sAsg, sSetI, sPar, gSets, gSet, gTup', gCons', gNil', DV.comps, tQ, tE, tNot', tAnd', tOr', qVar, qC, qOp, eOp, qUn, eUn, qMk, eMk, qIf, eIf, bQ, qAnd, qOr, qNot, qChain, DV.bool?, aNil, aCons, aeNil, aeCons, ofQ, eMove, g_zero, g_succ, DV.lend, DV.owned, DV.light, dIx_tup, dIx_lst, dIx_ro, dIx_fz, dIx_ml, dIx_mr, dIx_mt, dAdd_int, dSub_int, dNeg_int, dLt_int, dLe_int, dGt_int, dGe_int, dInt_int, dLen_tup, dLen_lst, dLen_ro, dLen_fz, mkT, mkL, pures, sAug, eAppend, isL, dAppend, dSetI, amQ, amE, eCallM, eCall, qCall, oNone, oSome, qSl, dSl_tup, dSl_lst, dSl_ro, dSl_fz, dTuple_lst, dTuple_ro, dTuple_tup, dList_lst, dList_ro, dList_tup, dMin2_int, dMax2_int, dAbs_int, dEq_int, dNe_int, sCnt, sBrk, sNever, atI_0, atI_1, atI_2, sizeLine_eq, Option.bind_some, Option.map_some, Option.bind_none, Option.map_none, List.length_cons, List.length_nil, List.set_cons_zero, List.set_cons_succ, List.getElem?_cons_zero, List.getElem?_cons_succ, List.map_cons, List.map_nil, List.cons_append, List.nil_append, List.replicate])).trans ((s1 _).trans ?_)
  refine (seq_nx (e := [some pot1, some (.p (.int most)), some (.p (.int high)), some (T as), p4, none, none, none, none, none, none, none, none]) (by simp [runF, modeOk, fin_cons, fin, startE, sSeq, sIf, sNext, sRet, sRetN, sDrop, sAsg, sSetI, sPar, gSets, gSet, gTup', gCons', gNil', DV.comps, tQ, tE, tNot', tAnd', tOr', qVar, qC, qOp, eOp, qUn, eUn, qMk, eMk, qIf, eIf, bQ, qAnd, qOr, qNot, qChain, DV.bool?, aNil, aCons, aeNil, aeCons, ofQ, eMove, g_zero, g_succ, DV.lend, DV.owned, DV.light, dIx_tup, dIx_lst, dIx_ro, dIx_fz, dIx_ml, dIx_mr, dIx_mt, dAdd_int, dSub_int, dNeg_int, dLt_int, dLe_int, dGt_int, dGe_int, dInt_int, dLen_tup, dLen_lst, dLen_ro, dLen_fz, mkT, mkL, pures, sAug, eAppend, isL, dAppend, dSetI, amQ, amE, eCallM, eCall, qCall, oNone, oSome, qSl, dSl_tup, dSl_lst, dSl_ro, dSl_fz, dTuple_lst, dTuple_ro, dTuple_tup, dList_lst, dList_ro, dList_tup, dMin2_int, dMax2_int, dAbs_int, dEq_int, dNe_int, sCnt, sBrk, sNever, atI_0, atI_1, atI_2, sizeLine_eq, Option.bind_some, Option.map_some, Option.bind_none, Option.map_none, List.length_cons, List.length_nil, List.set_cons_zero, List.set_cons_succ, List.getElem?_cons_zero, List.getElem?_cons_succ, List.map_cons, List.map_nil, List.cons_append, List.nil_append, List.replicate])).trans ?_
  refine (seq_nx (e := [some pot3, some (.p (.int most)), some (.p (.int high)), some (T as), p4, none, none, some (.p (.int f)), some (.p (.int k)), none, none, none, none]) (by
    simp only [sPar, aeCons, aeNil, eMk, f1, k1, Option.bind_some, Option.map_some, dInt_int]
    simp [gSets])).trans ?_
  refine (seq_nx (e := [some pot3, some (.p (.int most)), some (.p (.int high)), some (T as), p4, none, none, some (.p (.int f)), some (.p (.int k)), some (.lst (L.map PV.int)), some (T P), none, none]) (by
    simp [runF, modeOk, fin_cons, fin, startE, sSeq, sIf, sNext, sRet, sRetN, sDrop, sAsg, sSetI, sPar, gSets, gSet, gTup', gCons', gNil', DV.comps, tQ, tE, tNot', tAnd', tOr', qVar, qC, qOp, eOp, qUn, eUn, qMk, eMk, qIf, eIf, bQ, qAnd, qOr, qNot, qChain, DV.bool?, aNil, aCons, aeNil, aeCons, ofQ, eMove, g_zero, g_succ, DV.lend, DV.owned, DV.light, dIx_tup, dIx_lst, dIx_ro, dIx_fz, dIx_ml, dIx_mr, dIx_mt, dAdd_int, dSub_int, dNeg_int, dLt_int, dLe_int, dGt_int, dGe_int, dInt_int, dLen_tup, dLen_lst, dLen_ro, dLen_fz, mkT, mkL, pures, sAug, eAppend, isL, dAppend, dSetI, amQ, amE, eCallM, eCall, qCall, oNone, oSome, qSl, dSl_tup, dSl_lst, dSl_ro, dSl_fz, dTuple_lst, dTuple_ro, dTuple_tup, dList_lst, dList_ro, dList_tup, dMin2_int, dMax2_int, dAbs_int, dEq_int, dNe_int, sCnt, sBrk, sNever, atI_0, atI_1, atI_2, sizeLine_eq, Option.bind_some, Option.map_some, Option.bind_none, Option.map_none, List.length_cons, List.length_nil, List.set_cons_zero, List.set_cons_succ, List.getElem?_cons_zero, List.getElem?_cons_succ, List.map_cons, List.map_nil, List.cons_append, List.nil_append, List.replicate, b3, c4])).trans ?_
  refine (seq_nx (e := [some pot3, some (.p (.int most)), some (.p (.int high)), some (T as), p4, none, none, some (.p (.int f)), some (.p (.int k)), some (.lst (L.map PV.int)), some (T P), none, none]) (by
    simp [runF, modeOk, fin_cons, fin, startE, sSeq, sIf, sNext, sRet, sRetN, sDrop, sAsg, sSetI, sPar, gSets, gSet, gTup', gCons', gNil', DV.comps, tQ, tE, tNot', tAnd', tOr', qVar, qC, qOp, eOp, qUn, eUn, qMk, eMk, qIf, eIf, bQ, qAnd, qOr, qNot, qChain, DV.bool?, aNil, aCons, aeNil, aeCons, ofQ, eMove, g_zero, g_succ, DV.lend, DV.owned, DV.light, dIx_tup, dIx_lst, dIx_ro, dIx_fz, dIx_ml, dIx_mr, dIx_mt, dAdd_int, dSub_int, dNeg_int, dLt_int, dLe_int, dGt_int, dGe_int, dInt_int, dLen_tup, dLen_lst, dLen_ro, dLen_fz, mkT, mkL, pures, sAug, eAppend, isL, dAppend, dSetI, amQ, amE, eCallM, eCall, qCall, oNone, oSome, qSl, dSl_tup, dSl_lst, dSl_ro, dSl_fz, dTuple_lst, dTuple_ro, dTuple_tup, dList_lst, dList_ro, dList_tup, dMin2_int, dMax2_int, dAbs_int, dEq_int, dNe_int, sCnt, sBrk, sNever, atI_0, atI_1, atI_2, sizeLine_eq, Option.bind_some, Option.map_some, Option.bind_none, Option.map_none, List.length_cons, List.length_nil, List.set_cons_zero, List.set_cons_succ, List.getElem?_cons_zero, List.getElem?_cons_succ, List.map_cons, List.map_nil, List.cons_append, List.nil_append, List.replicate, c5, c6, hlast])).trans ?_
  refine (seq_nx (e := [some pot3, some (.p (.int most)), some (.p (.int high)), some (T as), p4, none, none, some (.p (.int f)), some (.p (.int k)), some (.lst (L.map PV.int)), some (T P), none, none]) (by
    simp [runF, modeOk, fin_cons, fin, startE, sSeq, sIf, sNext, sRet, sRetN, sDrop, sAsg, sSetI, sPar, gSets, gSet, gTup', gCons', gNil', DV.comps, tQ, tE, tNot', tAnd', tOr', qVar, qC, qOp, eOp, qUn, eUn, qMk, eMk, qIf, eIf, bQ, qAnd, qOr, qNot, qChain, DV.bool?, aNil, aCons, aeNil, aeCons, ofQ, eMove, g_zero, g_succ, DV.lend, DV.owned, DV.light, dIx_tup, dIx_lst, dIx_ro, dIx_fz, dIx_ml, dIx_mr, dIx_mt, dAdd_int, dSub_int, dNeg_int, dLt_int, dLe_int, dGt_int, dGe_int, dInt_int, dLen_tup, dLen_lst, dLen_ro, dLen_fz, mkT, mkL, pures, sAug, eAppend, isL, dAppend, dSetI, amQ, amE, eCallM, eCall, qCall, oNone, oSome, qSl, dSl_tup, dSl_lst, dSl_ro, dSl_fz, dTuple_lst, dTuple_ro, dTuple_tup, dList_lst, dList_ro, dList_tup, dMin2_int, dMax2_int, dAbs_int, dEq_int, dNe_int, sCnt, sBrk, sNever, atI_0, atI_1, atI_2, sizeLine_eq, Option.bind_some, Option.map_some, Option.bind_none, Option.map_none, List.length_cons, List.length_nil, List.set_cons_zero, List.set_cons_succ, List.getElem?_cons_zero, List.getElem?_cons_succ, List.map_cons, List.map_nil, List.cons_append, List.nil_append, List.replicate, c7, c8, hlast, dIsnot, dIs])).trans ?_
  refine (seq_nx (e := [some pot3, some (.p (.int most)), some (.p (.int high)), some (T as), p4, some (T as), none, some (.p (.int f)), some (.p (.int k)), some (.lst (L.map PV.int)), some (T P), none, none]) (by simp [runF, modeOk, fin_cons, fin, startE, sSeq, sIf, sNext, sRet, sRetN, sDrop, sAsg, sSetI, sPar, gSets, gSet, gTup', gCons', gNil', DV.comps, tQ, tE, tNot', tAnd', tOr', qVar, qC, qOp, eOp, qUn, eUn, qMk, eMk, qIf, eIf, bQ, qAnd, qOr, qNot, qChain, DV.bool?, aNil, aCons, aeNil, aeCons, ofQ, eMove, g_zero, g_succ, DV.lend, DV.owned, DV.light, dIx_tup, dIx_lst, dIx_ro, dIx_fz, dIx_ml, dIx_mr, dIx_mt, dAdd_int, dSub_int, dNeg_int, dLt_int, dLe_int, dGt_int, dGe_int, dInt_int, dLen_tup, dLen_lst, dLen_ro, dLen_fz, mkT, mkL, pures, sAug, eAppend, isL, dAppend, dSetI, amQ, amE, eCallM, eCall, qCall, oNone, oSome, qSl, dSl_tup, dSl_lst, dSl_ro, dSl_fz, dTuple_lst, dTuple_ro, dTuple_tup, dList_lst, dList_ro, dList_tup, dMin2_int, dMax2_int, dAbs_int, dEq_int, dNe_int, sCnt, sBrk, sNever, atI_0, atI_1, atI_2, sizeLine_eq, Option.bind_some, Option.map_some, Option.bind_none, Option.map_none, List.length_cons, List.length_nil, List.set_cons_zero, List.set_cons_succ, List.getElem?_cons_zero, List.getElem?_cons_succ, List.map_cons, List.map_nil, List.cons_append, List.nil_append, List.replicate])).trans ?_
  refine (seq_nx (if_f (t_q ((op_q (call_q (m := m_cost_of) (ds := [T as, .p (.int f), .p (.int k), T as]) rfl d3) ((op_q (x := .p (.int f)) rfl hpos).trans (dMul_int hmul))).trans (dNe_self (good_int _))))) |>.trans rfl).trans ?_
  refine (seq_nx s10).trans ?_
  refine (seq_nx (e := [some pot4, some (.p (.int most)), some (.p (.int high)), some (T as), p4, some (T as), some (.p (.int n)), some (.p (.int f)), some (.p (.int k)), some (.lst (L.map PV.int)), some (T P), p11, none]) (by
    simp only [sAsg, aeCons, aeNil, eMk, t1, Option.bind_some, Option.map_some, dInt_int]
    simp [gSet])).trans ?_
  refine ret_q ?_ rfl
  have q1 : qOp dEq (qCallL m_least_cost (aCons (qSl (qVar 3) (oNone) (oSome (qVar 6))) (aCons (qVar 7) (aCons (qVar 8) (aNil))))) (qOp dIx (qVar 9) (qVar 6)) [some pot4, some (.p (.int most)), some (.p (.int high)), some (T as), p4, some (T as), some (.p (.int n)), some (.p (.int f)), some (.p (.int k)), some (.lst (L.map PV.int)), some (T P), p11, none] = some (.p (.bl true)) := by
    refine (op_q (x := .p (.int (L.getD n 0))) (y := .p (.int (L.getD n 0))) ?_ ?_).trans (dEq_self (good_int _))
    · simp only [qCallL, aCons, aNil, qSl, qVar, oNone, oSome, g_zero, g_succ, DV.lend, Option.bind_some, Option.map_some, dSl_tup, hcut, DV.lends, g1]
    · simp only [qOp, qVar, g_zero, g_succ, DV.lend, Option.bind_some, Option.map_some, dIx_ro, hat]
  have q2 : qOp dEq (qVar 9) (qMk dSorted (aCons (qVar 9) (aNil))) [some pot4, some (.p (.int most)), some (.p (.int high)), some (T as), p4, some (T as), some (.p (.int n)), some (.p (.int f)), some (.p (.int k)), some (.lst (L.map PV.int)), some (T P), p11, none] = some (.p (.bl true)) :=
    (op_q (x := .ro (L.map PV.int)) (y := .lst (L.map PV.int)) rfl ((mk_q (a1_q (x := .ro (L.map PV.int)) rfl)).trans hsrt)).trans (dEq_lists L)
  simp [qAnd, q1, q2, DV.bool?]
end k25G

set_option Elab.async false
set_option linter.all false
set_option maxRecDepth 100000
set_option maxHeartbeats 0
namespace k25G
open PySem PySem.Spec PyProof.Rows L2 Sm k25M
/-! storing, by the mirrors -/
structure Sto (M W : List Int) : Prop where
  m : Rng 0 1000000 M
  w : Rng 0 1000000 W
  len : M.length ≤ 100
  eq : W.length = M.length
theorem look_sto {M W : List Int} {room : Int} (h : Sto M W) (h0 : 0 ≤ room) (h1 : room ≤ 1000000) : ∃ r, m_look_at_storing [T M, T W, .p (.int room)] = some (.p .non, r) := by
  have a := are_ints_ok (xs := M) (lo := 0) (hi := 1000000) h.m (by have := h.len; omega)
  have b := are_ints_ok (xs := W) (lo := 0) (hi := 1000000) h.w (by have := h.len; have := h.eq; omega)
  have c := is_int_ok (x := room) (lo := 0) (hi := 1000000) h0 h1
  have hl := h.len
  have he := h.eq
  exact ⟨[T M, T W, .p (.int room)], by simp [m_look_at_storing, b_look_at_storing, runF, modeOk, fin_cons, fin, startE, sSeq, sIf, sNext, sRet, sRetN, sDrop, sAsg, sSetI, sPar, gSets, gSet, gTup', gCons', gNil', DV.comps, tQ, tE, tNot', tAnd', tOr', qVar, qC, qOp, eOp, qUn, eUn, qMk, eMk, qIf, eIf, bQ, qAnd, qOr, qNot, qChain, DV.bool?, aNil, aCons, aeNil, aeCons, ofQ, eMove, g_zero, g_succ, DV.lend, DV.owned, DV.light, dIx_tup, dIx_lst, dIx_ro, dIx_fz, dIx_ml, dIx_mr, dIx_mt, dAdd_int, dSub_int, dNeg_int, dLt_int, dLe_int, dGt_int, dGe_int, dInt_int, dLen_tup, dLen_lst, dLen_ro, dLen_fz, mkT, mkL, pures, sAug, eAppend, isL, dAppend, dSetI, amQ, amE, eCallM, eCall, qCall, oNone, oSome, qSl, dSl_tup, dSl_lst, dSl_ro, dSl_fz, dTuple_lst, dTuple_ro, dTuple_tup, dList_lst, dList_ro, dList_tup, dMin2_int, dMax2_int, dAbs_int, dEq_int, dNe_int, sCnt, sBrk, sNever, atI_0, atI_1, atI_2, sizeLine_eq, Option.bind_some, Option.map_some, Option.bind_none, Option.map_none, List.length_cons, List.length_nil, List.set_cons_zero, List.set_cons_succ, List.getElem?_cons_zero, List.getElem?_cons_succ, List.map_cons, List.map_nil, List.cons_append, List.nil_append, List.replicate, a, b, c, he, show ¬ (100 : Int) < M.length by omega]⟩
theorem short_loop (M W : List Int) (room : Int) : ∀ (r : List (Int × Int)) (l : Int) (o4 o5 : Option DV), ∃ l' p4 p5, forL (gTup' 2 (gCons' (gSet 4) (gCons' (gSet 5) (gNil')))) b__law_short_1 (r.map fun p => DV.p (.tup [.int p.1, .int p.2])) [some (T M), some (T W), some (.p (.int room)), some (.p (.int l)), o4, o5] = some (if short room l r = true then .rt (.p (.bl true)) [some (T M), some (T W), some (.p (.int room)), some (.p (.int l')), p4, p5] else .nx [some (T M), some (T W), some (.p (.int room)), some (.p (.int l')), p4, p5])
  | [], l, o4, o5 => ⟨l, o4, o5, by simp [forL, short]⟩
  | (m, w) :: r, l, o4, o5 => by
    by_cases h : l + m < w
    · exact ⟨l, _, _, by simp [forL, short, b__law_short_1, runF, modeOk, fin_cons, fin, startE, sSeq, sIf, sNext, sRet, sRetN, sDrop, sAsg, sSetI, sPar, gSets, gSet, gTup', gCons', gNil', DV.comps, tQ, tE, tNot', tAnd', tOr', qVar, qC, qOp, eOp, qUn, eUn, qMk, eMk, qIf, eIf, bQ, qAnd, qOr, qNot, qChain, DV.bool?, aNil, aCons, aeNil, aeCons, ofQ, eMove, g_zero, g_succ, DV.lend, DV.owned, DV.light, dIx_tup, dIx_lst, dIx_ro, dIx_fz, dIx_ml, dIx_mr, dIx_mt, dAdd_int, dSub_int, dNeg_int, dLt_int, dLe_int, dGt_int, dGe_int, dInt_int, dLen_tup, dLen_lst, dLen_ro, dLen_fz, mkT, mkL, pures, sAug, eAppend, isL, dAppend, dSetI, amQ, amE, eCallM, eCall, qCall, oNone, oSome, qSl, dSl_tup, dSl_lst, dSl_ro, dSl_fz, dTuple_lst, dTuple_ro, dTuple_tup, dList_lst, dList_ro, dList_tup, dMin2_int, dMax2_int, dAbs_int, dEq_int, dNe_int, sCnt, sBrk, sNever, atI_0, atI_1, atI_2, sizeLine_eq, Option.bind_some, Option.map_some, Option.bind_none, Option.map_none, List.length_cons, List.length_nil, List.set_cons_zero, List.set_cons_succ, List.getElem?_cons_zero, List.getElem?_cons_succ, List.map_cons, List.map_nil, List.cons_append, List.nil_append, List.replicate, h]; exact ⟨rfl, rfl⟩⟩
    · obtain ⟨l', p4, p5, ih⟩ := short_loop M W room r (min room (l + m - w)) (some (.p (.int m))) (some (.p (.int w)))
      refine ⟨l', p4, p5, ?_⟩
      have hs : short room l ((m, w) :: r) = short room (min room (l + m - w)) r := by simp only [short]; rw [if_neg h]
      rw [hs, ← ih]
      simp [forL, b__law_short_1, runF, modeOk, fin_cons, fin, startE, sSeq, sIf, sNext, sRet, sRetN, sDrop, sAsg, sSetI, sPar, gSets, gSet, gTup', gCons', gNil', DV.comps, tQ, tE, tNot', tAnd', tOr', qVar, qC, qOp, eOp, qUn, eUn, qMk, eMk, qIf, eIf, bQ, qAnd, qOr, qNot, qChain, DV.bool?, aNil, aCons, aeNil, aeCons, ofQ, eMove, g_zero, g_succ, DV.lend, DV.owned, DV.light, dIx_tup, dIx_lst, dIx_ro, dIx_fz, dIx_ml, dIx_mr, dIx_mt, dAdd_int, dSub_int, dNeg_int, dLt_int, dLe_int, dGt_int, dGe_int, dInt_int, dLen_tup, dLen_lst, dLen_ro, dLen_fz, mkT, mkL, pures, sAug, eAppend, isL, dAppend, dSetI, amQ, amE, eCallM, eCall, qCall, oNone, oSome, qSl, dSl_tup, dSl_lst, dSl_ro, dSl_fz, dTuple_lst, dTuple_ro, dTuple_tup, dList_lst, dList_ro, dList_tup, dMin2_int, dMax2_int, dAbs_int, dEq_int, dNe_int, sCnt, sBrk, sNever, atI_0, atI_1, atI_2, sizeLine_eq, Option.bind_some, Option.map_some, Option.bind_none, Option.map_none, List.length_cons, List.length_nil, List.set_cons_zero, List.set_cons_succ, List.getElem?_cons_zero, List.getElem?_cons_succ, List.map_cons, List.map_nil, List.cons_append, List.nil_append, List.replicate, h]
theorem law_short_ok (M W : List Int) (room : Int) : ∃ r, m__law_short [T M, T W, .p (.int room)] = some (.p (.bl (short room 0 (M.zip W))), r) := by
  obtain ⟨l', p4, p5, h⟩ := short_loop M W room (M.zip W) 0 none none
  refine ⟨[T M, T W, .p (.int room)], ?_⟩
  have hz : fW z2D (aCons (qF (qVar 0)) (aCons (qF (qVar 1)) (aNil))) [some (T M), some (T W), some (.p (.int room)), some (.p (.int 0)), none, none] = some ((M.zip W).map (fun p => DV.p (.tup [.int p.1, .int p.2])), [some (T M), some (T W), some (.p (.int room)), some (.p (.int 0)), none, none]) := by
    simp only [fW, qF, lightE, aCons, aNil, qVar]
    simp [DV.lend, g_zero, g_succ, z2D_tup, zip_ints, DV.light]
  by_cases hs : short room 0 (M.zip W) = true
  · rw [if_pos hs] at h
    rw [hs]
    refine run_rt (by simp [modeOk, DV.light]) ?_ (e := [some (T M), some (T W), some (.p (.int room)), some (.p (.int l')), p4, p5]) rfl
    unfold b__law_short
    exact (seq_nx (e := [some (T M), some (T W), some (.p (.int room)), some (.p (.int 0)), none, none]) (by simp [runF, modeOk, fin_cons, fin, startE, sSeq, sIf, sNext, sRet, sRetN, sDrop, sAsg, sSetI, sPar, gSets, gSet, gTup', gCons', gNil', DV.comps, tQ, tE, tNot', tAnd', tOr', qVar, qC, qOp, eOp, qUn, eUn, qMk, eMk, qIf, eIf, bQ, qAnd, qOr, qNot, qChain, DV.bool?, aNil, aCons, aeNil, aeCons, ofQ, eMove, g_zero, g_succ, DV.lend, DV.owned, DV.light, dIx_tup, dIx_lst, dIx_ro, dIx_fz, dIx_ml, dIx_mr, dIx_mt, dAdd_int, dSub_int, dNeg_int, dLt_int, dLe_int, dGt_int, dGe_int, dInt_int, dLen_tup, dLen_lst, dLen_ro, dLen_fz, mkT, mkL, pures, sAug, eAppend, isL, dAppend, dSetI, amQ, amE, eCallM, eCall, qCall, oNone, oSome, qSl, dSl_tup, dSl_lst, dSl_ro, dSl_fz, dTuple_lst, dTuple_ro, dTuple_tup, dList_lst, dList_ro, dList_tup, dMin2_int, dMax2_int, dAbs_int, dEq_int, dNe_int, sCnt, sBrk, sNever, atI_0, atI_1, atI_2, sizeLine_eq, Option.bind_some, Option.map_some, Option.bind_none, Option.map_none, List.length_cons, List.length_nil, List.set_cons_zero, List.set_cons_succ, List.getElem?_cons_zero, List.getElem?_cons_succ, List.map_cons, List.map_nil, List.cons_append, List.nil_append, List.replicate])).trans (seq_rt ((for_e hz).trans h))
  · rw [if_neg hs] at h
    have hs' : short room 0 (M.zip W) = false := by simpa using hs
    rw [hs']
    refine run_rt (by simp [modeOk, DV.light]) ?_ (e := [some (T M), some (T W), some (.p (.int room)), some (.p (.int l')), p4, p5]) rfl
    unfold b__law_short
    refine (seq_nx (e := [some (T M), some (T W), some (.p (.int room)), some (.p (.int 0)), none, none]) (by simp [runF, modeOk, fin_cons, fin, startE, sSeq, sIf, sNext, sRet, sRetN, sDrop, sAsg, sSetI, sPar, gSets, gSet, gTup', gCons', gNil', DV.comps, tQ, tE, tNot', tAnd', tOr', qVar, qC, qOp, eOp, qUn, eUn, qMk, eMk, qIf, eIf, bQ, qAnd, qOr, qNot, qChain, DV.bool?, aNil, aCons, aeNil, aeCons, ofQ, eMove, g_zero, g_succ, DV.lend, DV.owned, DV.light, dIx_tup, dIx_lst, dIx_ro, dIx_fz, dIx_ml, dIx_mr, dIx_mt, dAdd_int, dSub_int, dNeg_int, dLt_int, dLe_int, dGt_int, dGe_int, dInt_int, dLen_tup, dLen_lst, dLen_ro, dLen_fz, mkT, mkL, pures, sAug, eAppend, isL, dAppend, dSetI, amQ, amE, eCallM, eCall, qCall, oNone, oSome, qSl, dSl_tup, dSl_lst, dSl_ro, dSl_fz, dTuple_lst, dTuple_ro, dTuple_tup, dList_lst, dList_ro, dList_tup, dMin2_int, dMax2_int, dAbs_int, dEq_int, dNe_int, sCnt, sBrk, sNever, atI_0, atI_1, atI_2, sizeLine_eq, Option.bind_some, Option.map_some, Option.bind_none, Option.map_none, List.length_cons, List.length_nil, List.set_cons_zero, List.set_cons_succ, List.getElem?_cons_zero, List.getElem?_cons_succ, List.map_cons, List.map_nil, List.cons_append, List.nil_append, List.replicate])).trans ((for_nx h hz).trans ?_)
    exact ret_q rfl rfl
/-! the program's own -/
def Found (M W : List Int) (room : Int) (fi se : Nat) : Prop := fi ≤ se ∧ se < M.length ∧ (seg M fi (se + 1)).sum + (if 0 < fi then room else 0) < (seg W fi (se + 1)).sum
theorem drop_zip {M W : List Int} {i : Nat} {m w : Int} {r : List (Int × Int)} (h : (M.zip W).drop i = (m, w) :: r) : (M.zip W).drop (i + 1) = r ∧ i < M.length ∧ i < W.length ∧ M[i]? = some m ∧ W[i]? = some w := by
  have h0 : (M.zip W)[i]? = some (m, w) := by
    have := congrArg (fun l => l[0]?) h
    simpa [List.getElem?_drop] using this
  have h1 : (M.zip W).drop (i + 1) = r := by
    have := congrArg (fun l => l.drop 1) h
    simpa [List.drop_drop, Nat.add_comm] using this
  rw [List.getElem?_zip_eq_some] at h0
  exact ⟨h1, (List.getElem?_eq_some_iff.mp h0.1).1, (List.getElem?_eq_some_iff.mp h0.2).1, h0.1, h0.2⟩
theorem seg_sum {xs : List Int} {b e : Nat} {v : Int} (hb : b ≤ e) (he : xs[e]? = some v) : (seg xs b (e + 1)).sum = (seg xs b e).sum + v := by
  obtain ⟨h, rfl⟩ := List.getElem?_eq_some_iff.mp he
  rw [seg_succ hb h, List.sum_append]; simp
theorem tshort_loop (M W : List Int) (room : Int) : ∀ (r : List (Int × Int)) (i : Nat) (kept : Int) (first : Nat) (o5 o6 o7 : Option DV), (M.zip W).drop i = r → first ≤ i → kept = (if 0 < first then room else 0) + (seg M first i).sum - (seg W first i).sum →
    ∃ k' f' p5 p6 p7, (short room kept r = false ∧ forL (gTup' 2 (gCons' (gSet 5) (gCons' (gTup' 2 (gCons' (gSet 6) (gCons' (gSet 7) (gNil')))) (gNil')))) b_told_short_1 (enumP i (r.map fun p => PV.tup [.int p.1, .int p.2])) [some (T M), some (T W), some (.p (.int room)), some (.p (.int kept)), some (.p (.int (first : Nat))), o5, o6, o7] = some (.nx [some (T M), some (T W), some (.p (.int room)), some (.p (.int k')), some (.p (.int f')), p5, p6, p7])) ∨
      (short room kept r = true ∧ ∃ fi se : Nat, Found M W room fi se ∧ forL (gTup' 2 (gCons' (gSet 5) (gCons' (gTup' 2 (gCons' (gSet 6) (gCons' (gSet 7) (gNil')))) (gNil')))) b_told_short_1 (enumP i (r.map fun p => PV.tup [.int p.1, .int p.2])) [some (T M), some (T W), some (.p (.int room)), some (.p (.int kept)), some (.p (.int (first : Nat))), o5, o6, o7] = some (.rt (.p (.tup [.int (fi : Nat), .int (se : Nat)])) [some (T M), some (T W), some (.p (.int room)), some (.p (.int k')), some (.p (.int f')), p5, p6, p7]))
  | [], i, kept, first, o5, o6, o7, hd, hf, hk => ⟨kept, first, o5, o6, o7, .inl ⟨rfl, by simp [forL, enumP]⟩⟩
  | (m, w) :: r, i, kept, first, o5, o6, o7, hd, hf, hk => by
    obtain ⟨d1, d2, d3, d4, d5⟩ := drop_zip hd
    have s1 := seg_sum hf d4
    have s2 := seg_sum hf d5
    by_cases h : kept + m < w
    · refine ⟨kept, first, some (.p (.int i)), some (.p (.int m)), some (.p (.int w)), .inr ⟨by simp only [short]; rw [if_pos h], first, i, ⟨hf, d2, by omega⟩, ?_⟩⟩
      simp [forL, enumP, b_told_short_1, runF, modeOk, fin_cons, fin, startE, sSeq, sIf, sNext, sRet, sRetN, sDrop, sAsg, sSetI, sPar, gSets, gSet, gTup', gCons', gNil', DV.comps, tQ, tE, tNot', tAnd', tOr', qVar, qC, qOp, eOp, qUn, eUn, qMk, eMk, qIf, eIf, bQ, qAnd, qOr, qNot, qChain, DV.bool?, aNil, aCons, aeNil, aeCons, ofQ, eMove, g_zero, g_succ, DV.lend, DV.owned, DV.light, dIx_tup, dIx_lst, dIx_ro, dIx_fz, dIx_ml, dIx_mr, dIx_mt, dAdd_int, dSub_int, dNeg_int, dLt_int, dLe_int, dGt_int, dGe_int, dInt_int, dLen_tup, dLen_lst, dLen_ro, dLen_fz, mkT, mkL, pures, sAug, eAppend, isL, dAppend, dSetI, amQ, amE, eCallM, eCall, qCall, oNone, oSome, qSl, dSl_tup, dSl_lst, dSl_ro, dSl_fz, dTuple_lst, dTuple_ro, dTuple_tup, dList_lst, dList_ro, dList_tup, dMin2_int, dMax2_int, dAbs_int, dEq_int, dNe_int, sCnt, sBrk, sNever, atI_0, atI_1, atI_2, sizeLine_eq, Option.bind_some, Option.map_some, Option.bind_none, Option.map_none, List.length_cons, List.length_nil, List.set_cons_zero, List.set_cons_succ, List.getElem?_cons_zero, List.getElem?_cons_succ, List.map_cons, List.map_nil, List.cons_append, List.nil_append, List.replicate, h]
    · have hs : short room kept ((m, w) :: r) = short room (min room (kept + m - w)) r := by simp only [short]; rw [if_neg h]
      rw [hs]
      by_cases h2 : room ≤ kept + m - w
      · have e : min room (kept + m - w) = room := by omega
        rw [e]
        obtain ⟨k', f', p5, p6, p7, ih⟩ := tshort_loop M W room r (i + 1) room (i + 1) (some (.p (.int i))) (some (.p (.int m))) (some (.p (.int w))) d1 (Nat.le_refl _) (by rw [if_pos (by omega), seg_self, seg_self]; simp)
        refine ⟨k', f', p5, p6, p7, ?_⟩
        have step : forL (gTup' 2 (gCons' (gSet 5) (gCons' (gTup' 2 (gCons' (gSet 6) (gCons' (gSet 7) (gNil')))) (gNil')))) b_told_short_1 (enumP i (((m, w) :: r).map fun p => PV.tup [.int p.1, .int p.2])) [some (T M), some (T W), some (.p (.int room)), some (.p (.int kept)), some (.p (.int (first : Nat))), o5, o6, o7] =
            forL (gTup' 2 (gCons' (gSet 5) (gCons' (gTup' 2 (gCons' (gSet 6) (gCons' (gSet 7) (gNil')))) (gNil')))) b_told_short_1 (enumP ((i + 1 : Nat) : Int) (r.map fun p => PV.tup [.int p.1, .int p.2])) [some (T M), some (T W), some (.p (.int room)), some (.p (.int room)), some (.p (.int ((i + 1 : Nat) : Int))), some (.p (.int i)), some (.p (.int m)), some (.p (.int w))] := by
          simp [forL, enumP, b_told_short_1, runF, modeOk, fin_cons, fin, startE, sSeq, sIf, sNext, sRet, sRetN, sDrop, sAsg, sSetI, sPar, gSets, gSet, gTup', gCons', gNil', DV.comps, tQ, tE, tNot', tAnd', tOr', qVar, qC, qOp, eOp, qUn, eUn, qMk, eMk, qIf, eIf, bQ, qAnd, qOr, qNot, qChain, DV.bool?, aNil, aCons, aeNil, aeCons, ofQ, eMove, g_zero, g_succ, DV.lend, DV.owned, DV.light, dIx_tup, dIx_lst, dIx_ro, dIx_fz, dIx_ml, dIx_mr, dIx_mt, dAdd_int, dSub_int, dNeg_int, dLt_int, dLe_int, dGt_int, dGe_int, dInt_int, dLen_tup, dLen_lst, dLen_ro, dLen_fz, mkT, mkL, pures, sAug, eAppend, isL, dAppend, dSetI, amQ, amE, eCallM, eCall, qCall, oNone, oSome, qSl, dSl_tup, dSl_lst, dSl_ro, dSl_fz, dTuple_lst, dTuple_ro, dTuple_tup, dList_lst, dList_ro, dList_tup, dMin2_int, dMax2_int, dAbs_int, dEq_int, dNe_int, sCnt, sBrk, sNever, atI_0, atI_1, atI_2, sizeLine_eq, Option.bind_some, Option.map_some, Option.bind_none, Option.map_none, List.length_cons, List.length_nil, List.set_cons_zero, List.set_cons_succ, List.getElem?_cons_zero, List.getElem?_cons_succ, List.map_cons, List.map_nil, List.cons_append, List.nil_append, List.replicate, h, h2]
        rw [step]; exact ih
      · have e : min room (kept + m - w) = kept + m - w := by omega
        rw [e]
        obtain ⟨k', f', p5, p6, p7, ih⟩ := tshort_loop M W room r (i + 1) (kept + m - w) first (some (.p (.int i))) (some (.p (.int m))) (some (.p (.int w))) d1 (by omega) (by omega)
        refine ⟨k', f', p5, p6, p7, ?_⟩
        have step : forL (gTup' 2 (gCons' (gSet 5) (gCons' (gTup' 2 (gCons' (gSet 6) (gCons' (gSet 7) (gNil')))) (gNil')))) b_told_short_1 (enumP i (((m, w) :: r).map fun p => PV.tup [.int p.1, .int p.2])) [some (T M), some (T W), some (.p (.int room)), some (.p (.int kept)), some (.p (.int (first : Nat))), o5, o6, o7] =
            forL (gTup' 2 (gCons' (gSet 5) (gCons' (gTup' 2 (gCons' (gSet 6) (gCons' (gSet 7) (gNil')))) (gNil')))) b_told_short_1 (enumP ((i + 1 : Nat) : Int) (r.map fun p => PV.tup [.int p.1, .int p.2])) [some (T M), some (T W), some (.p (.int room)), some (.p (.int (kept + m - w))), some (.p (.int (first : Nat))), some (.p (.int i)), some (.p (.int m)), some (.p (.int w))] := by
          simp [forL, enumP, b_told_short_1, runF, modeOk, fin_cons, fin, startE, sSeq, sIf, sNext, sRet, sRetN, sDrop, sAsg, sSetI, sPar, gSets, gSet, gTup', gCons', gNil', DV.comps, tQ, tE, tNot', tAnd', tOr', qVar, qC, qOp, eOp, qUn, eUn, qMk, eMk, qIf, eIf, bQ, qAnd, qOr, qNot, qChain, DV.bool?, aNil, aCons, aeNil, aeCons, ofQ, eMove, g_zero, g_succ, DV.lend, DV.owned, DV.light, dIx_tup, dIx_lst, dIx_ro, dIx_fz, dIx_ml, dIx_mr, dIx_mt, dAdd_int, dSub_int, dNeg_int, dLt_int, dLe_int, dGt_int, dGe_int, dInt_int, dLen_tup, dLen_lst, dLen_ro, dLen_fz, mkT, mkL, pures, sAug, eAppend, isL, dAppend, dSetI, amQ, amE, eCallM, eCall, qCall, oNone, oSome, qSl, dSl_tup, dSl_lst, dSl_ro, dSl_fz, dTuple_lst, dTuple_ro, dTuple_tup, dList_lst, dList_ro, dList_tup, dMin2_int, dMax2_int, dAbs_int, dEq_int, dNe_int, sCnt, sBrk, sNever, atI_0, atI_1, atI_2, sizeLine_eq, Option.bind_some, Option.map_some, Option.bind_none, Option.map_none, List.length_cons, List.length_nil, List.set_cons_zero, List.set_cons_succ, List.getElem?_cons_zero, List.getElem?_cons_succ, List.map_cons, List.map_nil, List.cons_append, List.nil_append, List.replicate, h, h2]
        rw [step]; exact ih
theorem told_short_ok (M W : List Int) (room : Int) : (short room 0 (M.zip W) = false ∧ ∃ r, m_told_short [T M, T W, .p (.int room)] = some (.p .non, r)) ∨ (short room 0 (M.zip W) = true ∧ ∃ (fi se : Nat) (r : List DV), Found M W room fi se ∧ m_told_short [T M, T W, .p (.int room)] = some (.p (.tup [.int (fi : Nat), .int (se : Nat)]), r)) := by
  obtain ⟨k', f', p5, p6, p7, h⟩ := tshort_loop M W room (M.zip W) 0 0 0 none none none rfl (Nat.le_refl _) (by rw [if_neg (by decide), seg_self, seg_self]; simp)
  have hz : fW ezD (aCons (qF (qVar 0)) (aCons (qF (qVar 1)) (aNil))) [some (T M), some (T W), some (.p (.int room)), some (.p (.int 0)), some (.p (.int 0)), none, none, none] = some (enumP ((0 : Nat) : Int) ((M.zip W).map fun p => PV.tup [.int p.1, .int p.2]), [some (T M), some (T W), some (.p (.int room)), some (.p (.int 0)), some (.p (.int 0)), none, none, none]) := by
    simp only [fW, qF, lightE, aCons, aNil, qVar]
    simp [DV.lend, g_zero, g_succ, ezD_tup, DV.light, List.zip_map, List.map_map, Function.comp_def]
  have h1 : ∀ c : Bk, sSeq (sAsg (eMk mkT (aeCons (ofQ (qC (.int 0))) (aeCons (ofQ (qC (.int 0))) (aeNil)))) (gTup' 2 (gCons' (gSet 3) (gCons' (gSet 4) (gNil'))))) c [some (T M), some (T W), some (.p (.int room)), none, none, none, none, none] = c [some (T M), some (T W), some (.p (.int room)), some (.p (.int 0)), some (.p (.int 0)), none, none, none] := fun c => seq_nx (by simp [runF, modeOk, fin_cons, fin, startE, sSeq, sIf, sNext, sRet, sRetN, sDrop, sAsg, sSetI, sPar, gSets, gSet, gTup', gCons', gNil', DV.comps, tQ, tE, tNot', tAnd', tOr', qVar, qC, qOp, eOp, qUn, eUn, qMk, eMk, qIf, eIf, bQ, qAnd, qOr, qNot, qChain, DV.bool?, aNil, aCons, aeNil, aeCons, ofQ, eMove, g_zero, g_succ, DV.lend, DV.owned, DV.light, dIx_tup, dIx_lst, dIx_ro, dIx_fz, dIx_ml, dIx_mr, dIx_mt, dAdd_int, dSub_int, dNeg_int, dLt_int, dLe_int, dGt_int, dGe_int, dInt_int, dLen_tup, dLen_lst, dLen_ro, dLen_fz, mkT, mkL, pures, sAug, eAppend, isL, dAppend, dSetI, amQ, amE, eCallM, eCall, qCall, oNone, oSome, qSl, dSl_tup, dSl_lst, dSl_ro, dSl_fz, dTuple_lst, dTuple_ro, dTuple_tup, dList_lst, dList_ro, dList_tup, dMin2_int, dMax2_int, dAbs_int, dEq_int, dNe_int, sCnt, sBrk, sNever, atI_0, atI_1, atI_2, sizeLine_eq, Option.bind_some, Option.map_some, Option.bind_none, Option.map_none, List.length_cons, List.length_nil, List.set_cons_zero, List.set_cons_succ, List.getElem?_cons_zero, List.getElem?_cons_succ, List.map_cons, List.map_nil, List.cons_append, List.nil_append, List.replicate])
  rcases h with ⟨hs, h⟩ | ⟨hs, fi, se, hF, h⟩
  · refine .inl ⟨hs, [T M, T W, .p (.int room)], ?_⟩
    refine run_rt (by simp [modeOk, DV.light]) ?_ (e := [some (T M), some (T W), some (.p (.int room)), some (.p (.int k')), some (.p (.int f')), p5, p6, p7]) rfl
    unfold b_told_short
    refine (h1 _).trans ((for_nx h hz).trans ?_)
    exact ret_q rfl rfl
  · refine .inr ⟨hs, fi, se, [T M, T W, .p (.int room)], hF, ?_⟩
    refine run_rt (by simp [modeOk, DV.light]) ?_ (e := [some (T M), some (T W), some (.p (.int room)), some (.p (.int k')), some (.p (.int f')), p5, p6, p7]) rfl
    unfold b_told_short
    exact (h1 _).trans (seq_rt ((for_e hz).trans h))
end k25G

set_option Elab.async false
set_option linter.all false
set_option maxRecDepth 100000
set_option maxHeartbeats 0
namespace k25G
open PySem PySem.Spec PyProof.Rows L2 Sm k25M
/-! the plan of storing -/
def stq (s : List Int × Int) (x : Int × Int) : List Int × Int := (s.1 ++ [min x.1 (s.2 + x.2)], s.2 + x.2 - min x.1 (s.2 + x.2))
theorem stq_fold : ∀ r : List (Int × Int), r.reverse.foldl stq ([], 0) = ((plan r).reverse, need r)
  | [] => rfl
  | (m, w) :: r => by
    rw [List.reverse_cons, List.foldl_append, stq_fold r]
    simp only [List.foldl_cons, List.foldl_nil, stq, plan, need, List.reverse_cons]
    congr 1
    omega
theorem told_plan_ok {M W : List Int} (h : Sto M W) : ∃ r, m_told_plan [T M, T W] = some (T (plan (M.zip W)), r) := by
  have hl := h.len
  obtain ⟨e', h1, ⟨⟨p4, p5, p6, rfl⟩, _⟩⟩ := forL_fold (t := gTup' 2 (gCons' (gSet 4) (gCons' (gSet 5) (gNil')))) (b := b_told_plan_1) (fun p : Int × Int => DV.p (.tup [.int p.1, .int p.2]))
    (fun s e => ∃ o4 o5 o6, e = [some (T M), some (T W), some (.lst (s.1.map PV.int)), some (.p (.int s.2)), o4, o5, o6]) stq (fun s r => s.1.length + r.length ≤ 100) (M.zip W).reverse ([], 0) [some (T M), some (T W), some (.lst []), some (.p (.int 0)), none, none, none] ⟨none, none, none, rfl⟩ (by simp; omega) (by
      rintro s ⟨m, w⟩ r e hs ⟨o4, o5, o6, rfl⟩
      refine ⟨_, [some (T M), some (T W), some (.lst ((stq s (m, w)).1.map PV.int)), some (.p (.int (stq s (m, w)).2)), some (.p (.int m)), some (.p (.int w)), some (.p (.int (min m (s.2 + w))))], by simp [runF, modeOk, fin_cons, fin, startE, sSeq, sIf, sNext, sRet, sRetN, sDrop, sAsg, sSetI, sPar, gSets, gSet, gTup', gCons', gNil', DV.comps, tQ, tE, tNot', tAnd', tOr', qVar, qC, qOp, eOp, qUn, eUn, qMk, eMk, qIf, eIf, bQ, qAnd, qOr, qNot, qChain, DV.bool?, aNil, aCons, aeNil, aeCons, ofQ, eMove, g_zero, g_succ, DV.lend, DV.owned, DV.light, dIx_tup, dIx_lst, dIx_ro, dIx_fz, dIx_ml, dIx_mr, dIx_mt, dAdd_int, dSub_int, dNeg_int, dLt_int, dLe_int, dGt_int, dGe_int, dInt_int, dLen_tup, dLen_lst, dLen_ro, dLen_fz, mkT, mkL, pures, sAug, eAppend, isL, dAppend, dSetI, amQ, amE, eCallM, eCall, qCall, oNone, oSome, qSl, dSl_tup, dSl_lst, dSl_ro, dSl_fz, dTuple_lst, dTuple_ro, dTuple_tup, dList_lst, dList_ro, dList_tup, dMin2_int, dMax2_int, dAbs_int, dEq_int, dNe_int, sCnt, sBrk, sNever, atI_0, atI_1, atI_2, sizeLine_eq, Option.bind_some, Option.map_some, Option.bind_none, Option.map_none, List.length_cons, List.length_nil, List.set_cons_zero, List.set_cons_succ, List.getElem?_cons_zero, List.getElem?_cons_succ, List.map_cons, List.map_nil, List.cons_append, List.nil_append, List.replicate]; rfl, .inl ?_, ⟨_, _, _, rfl⟩, ?_⟩
      · simp only [List.length_cons] at hs
        have hb : s.1.length < 16777216 := by omega
        simp [b_told_plan_1, runF, modeOk, fin_cons, fin, startE, sSeq, sIf, sNext, sRet, sRetN, sDrop, sAsg, sSetI, sPar, gSets, gSet, gTup', gCons', gNil', DV.comps, tQ, tE, tNot', tAnd', tOr', qVar, qC, qOp, eOp, qUn, eUn, qMk, eMk, qIf, eIf, bQ, qAnd, qOr, qNot, qChain, DV.bool?, aNil, aCons, aeNil, aeCons, ofQ, eMove, g_zero, g_succ, DV.lend, DV.owned, DV.light, dIx_tup, dIx_lst, dIx_ro, dIx_fz, dIx_ml, dIx_mr, dIx_mt, dAdd_int, dSub_int, dNeg_int, dLt_int, dLe_int, dGt_int, dGe_int, dInt_int, dLen_tup, dLen_lst, dLen_ro, dLen_fz, mkT, mkL, pures, sAug, eAppend, isL, dAppend, dSetI, amQ, amE, eCallM, eCall, qCall, oNone, oSome, qSl, dSl_tup, dSl_lst, dSl_ro, dSl_fz, dTuple_lst, dTuple_ro, dTuple_tup, dList_lst, dList_ro, dList_tup, dMin2_int, dMax2_int, dAbs_int, dEq_int, dNe_int, sCnt, sBrk, sNever, atI_0, atI_1, atI_2, sizeLine_eq, Option.bind_some, Option.map_some, Option.bind_none, Option.map_none, List.length_cons, List.length_nil, List.set_cons_zero, List.set_cons_succ, List.getElem?_cons_zero, List.getElem?_cons_succ, List.map_cons, List.map_nil, List.cons_append, List.nil_append, List.replicate, dII, stq, hb]
      · simp [stq] at hs ⊢; omega)
  rw [stq_fold] at h1
  refine ⟨[T M, T W], run_rt (by simp [modeOk, DV.light]) ?_ (e := [some (T M), some (T W), some (.lst ((plan (M.zip W)).reverse.map PV.int)), some (.p (.int (need (M.zip W)))), p4, p5, p6]) rfl⟩
  unfold b_told_plan
  refine (seq_nx (e := [some (T M), some (T W), some (.lst []), some (.p (.int 0)), none, none, none]) ?_).trans ((for_nx h1 ?_).trans ?_)
  · simp [runF, modeOk, fin_cons, fin, startE, sSeq, sIf, sNext, sRet, sRetN, sDrop, sAsg, sSetI, sPar, gSets, gSet, gTup', gCons', gNil', DV.comps, tQ, tE, tNot', tAnd', tOr', qVar, qC, qOp, eOp, qUn, eUn, qMk, eMk, qIf, eIf, bQ, qAnd, qOr, qNot, qChain, DV.bool?, aNil, aCons, aeNil, aeCons, ofQ, eMove, g_zero, g_succ, DV.lend, DV.owned, DV.light, dIx_tup, dIx_lst, dIx_ro, dIx_fz, dIx_ml, dIx_mr, dIx_mt, dAdd_int, dSub_int, dNeg_int, dLt_int, dLe_int, dGt_int, dGe_int, dInt_int, dLen_tup, dLen_lst, dLen_ro, dLen_fz, mkT, mkL, pures, sAug, eAppend, isL, dAppend, dSetI, amQ, amE, eCallM, eCall, qCall, oNone, oSome, qSl, dSl_tup, dSl_lst, dSl_ro, dSl_fz, dTuple_lst, dTuple_ro, dTuple_tup, dList_lst, dList_ro, dList_tup, dMin2_int, dMax2_int, dAbs_int, dEq_int, dNe_int, sCnt, sBrk, sNever, atI_0, atI_1, atI_2, sizeLine_eq, Option.bind_some, Option.map_some, Option.bind_none, Option.map_none, List.length_cons, List.length_nil, List.set_cons_zero, List.set_cons_succ, List.getElem?_cons_zero, List.getElem?_cons_succ, List.map_cons, List.map_nil, List.cons_append, List.nil_append, List.replicate]
  · simp only [fSeq, qO, qUn, qMk, aCons, aNil, qVar, g_zero, g_succ, DV.lend, Option.bind_some, Option.map_some, lz2D_tup, dRev_lst, DV.owned, itm_lst]
    simp [List.zip_map, Function.comp_def, DV.itm, List.map_reverse]
  · refine ret_q ?_ rfl
    have : dRev (.ro ((plan (M.zip W)).reverse.map PV.int)) = some (.lst ((plan (M.zip W)).map PV.int)) := by
      show some (DV.lst ((plan (M.zip W)).reverse.map PV.int).reverse) = _
      rw [← List.map_reverse, List.reverse_reverse]
    simp only [qMk, qUn, aCons, aNil, qVar, g_zero, g_succ, DV.lend, Option.bind_some, Option.map_some, this, dTuple_lst]
def okT (room : Int) : Int → List (Int × Int × Int) → Prop
  | _, [] => True
  | l, (m, w, p) :: r => 0 ≤ p ∧ p ≤ m ∧ 0 ≤ l + p - w ∧ l + p - w ≤ room ∧ okT room (l + p - w) r
theorem okT_of {room : Int} : ∀ {M W P : List Int} {l : Int}, okS room l (M.zip W) P → okT room l (M.zip (W.zip P))
  | m :: M, w :: W, p :: P, l, h => ⟨h.1, h.2.1, h.2.2.1, h.2.2.2.1, okT_of (M := M) (W := W) (P := P) h.2.2.2.2⟩
  | [], _, _, _, _ => trivial
  | _ :: _, [], _, _, _ => trivial
  | _ :: _, _ :: _, [], _, _ => trivial
theorem zip3_ints (xs ys zs : List Int) : ((xs.map PV.int).zip ((ys.map PV.int).zip (zs.map PV.int))).map (fun p => DV.p (.tup [p.1, p.2.1, p.2.2])) = (xs.zip (ys.zip zs)).map fun p => DV.p (.tup [.int p.1, .int p.2.1, .int p.2.2]) := by
  rw [List.zip_map, List.zip_map, List.map_map]; rfl
theorem does_ok {M W P : List Int} {room : Int} (h : Sto M W) (hP : Rng 0 1000000 P) (hl : P.length = M.length) (ho : okT room 0 (M.zip (W.zip P))) : ∃ r, m_does_store [T M, T W, .p (.int room), T P] = some (.p (.bl true), r) := by
  have a := are_ints_ok (xs := P) (lo := 0) (hi := 1000000) hP (by have := h.len; omega)
  obtain ⟨e', h1, ⟨⟨p5, p6, p7, rfl⟩, _⟩⟩ := forL_fold (t := gTup' 3 (gCons' (gSet 5) (gCons' (gSet 6) (gCons' (gSet 7) (gNil'))))) (b := b_does_store_1) (fun p : Int × Int × Int => DV.p (.tup [.int p.1, .int p.2.1, .int p.2.2]))
    (fun s e => ∃ o5 o6 o7, e = [some (T M), some (T W), some (.p (.int room)), some (T P), some (.p (.int s)), o5, o6, o7]) (fun (s : Int) x => s + x.2.2 - x.2.1) (fun s r => okT room s r) (M.zip (W.zip P)) 0 [some (T M), some (T W), some (.p (.int room)), some (T P), some (.p (.int 0)), none, none, none] ⟨none, none, none, rfl⟩ ho (by
      rintro s ⟨m, w, p⟩ r e ⟨h1, h2, h3, h4, h5⟩ ⟨o5, o6, o7, rfl⟩
      have e1 : s + (p - w) = s + p - w := by omega
      have h3' : w ≤ s + p := by omega
      have h4' : s + p ≤ room + w := by omega
      refine ⟨_, [some (T M), some (T W), some (.p (.int room)), some (T P), some (.p (.int (s + p - w))), some (.p (.int m)), some (.p (.int w)), some (.p (.int p))], by simp [runF, modeOk, fin_cons, fin, startE, sSeq, sIf, sNext, sRet, sRetN, sDrop, sAsg, sSetI, sPar, gSets, gSet, gTup', gCons', gNil', DV.comps, tQ, tE, tNot', tAnd', tOr', qVar, qC, qOp, eOp, qUn, eUn, qMk, eMk, qIf, eIf, bQ, qAnd, qOr, qNot, qChain, DV.bool?, aNil, aCons, aeNil, aeCons, ofQ, eMove, g_zero, g_succ, DV.lend, DV.owned, DV.light, dIx_tup, dIx_lst, dIx_ro, dIx_fz, dIx_ml, dIx_mr, dIx_mt, dAdd_int, dSub_int, dNeg_int, dLt_int, dLe_int, dGt_int, dGe_int, dInt_int, dLen_tup, dLen_lst, dLen_ro, dLen_fz, mkT, mkL, pures, sAug, eAppend, isL, dAppend, dSetI, amQ, amE, eCallM, eCall, qCall, oNone, oSome, qSl, dSl_tup, dSl_lst, dSl_ro, dSl_fz, dTuple_lst, dTuple_ro, dTuple_tup, dList_lst, dList_ro, dList_tup, dMin2_int, dMax2_int, dAbs_int, dEq_int, dNe_int, sCnt, sBrk, sNever, atI_0, atI_1, atI_2, sizeLine_eq, Option.bind_some, Option.map_some, Option.bind_none, Option.map_none, List.length_cons, List.length_nil, List.set_cons_zero, List.set_cons_succ, List.getElem?_cons_zero, List.getElem?_cons_succ, List.map_cons, List.map_nil, List.cons_append, List.nil_append, List.replicate]; rfl, .inl ?_, ⟨_, _, _, rfl⟩, h5⟩
      simp [b_does_store_1, runF, modeOk, fin_cons, fin, startE, sSeq, sIf, sNext, sRet, sRetN, sDrop, sAsg, sSetI, sPar, gSets, gSet, gTup', gCons', gNil', DV.comps, tQ, tE, tNot', tAnd', tOr', qVar, qC, qOp, eOp, qUn, eUn, qMk, eMk, qIf, eIf, bQ, qAnd, qOr, qNot, qChain, DV.bool?, aNil, aCons, aeNil, aeCons, ofQ, eMove, g_zero, g_succ, DV.lend, DV.owned, DV.light, dIx_tup, dIx_lst, dIx_ro, dIx_fz, dIx_ml, dIx_mr, dIx_mt, dAdd_int, dSub_int, dNeg_int, dLt_int, dLe_int, dGt_int, dGe_int, dInt_int, dLen_tup, dLen_lst, dLen_ro, dLen_fz, mkT, mkL, pures, sAug, eAppend, isL, dAppend, dSetI, amQ, amE, eCallM, eCall, qCall, oNone, oSome, qSl, dSl_tup, dSl_lst, dSl_ro, dSl_fz, dTuple_lst, dTuple_ro, dTuple_tup, dList_lst, dList_ro, dList_tup, dMin2_int, dMax2_int, dAbs_int, dEq_int, dNe_int, sCnt, sBrk, sNever, atI_0, atI_1, atI_2, sizeLine_eq, Option.bind_some, Option.map_some, Option.bind_none, Option.map_none, List.length_cons, List.length_nil, List.set_cons_zero, List.set_cons_succ, List.getElem?_cons_zero, List.getElem?_cons_succ, List.map_cons, List.map_nil, List.cons_append, List.nil_append, List.replicate, dII, e1, show ¬ m < p by omega, h3, h4, h3', h4'])
  generalize (M.zip (W.zip P)).foldl (fun (s : Int) x => s + x.2.2 - x.2.1) 0 = kept at h1
  refine ⟨[T M, T W, .p (.int room), T P], run_rt (by simp [modeOk, DV.light]) ?_ (e := [some (T M), some (T W), some (.p (.int room)), some (T P), some (.p (.int kept)), p5, p6, p7]) rfl⟩
  unfold b_does_store
  refine (seq_nx (e := [some (T M), some (T W), some (.p (.int room)), some (T P), none, none, none, none]) ?_).trans ((seq_nx (e := [some (T M), some (T W), some (.p (.int room)), some (T P), some (.p (.int 0)), none, none, none]) ?_).trans ((for_nx h1 ?_).trans ?_))
  · simp [runF, modeOk, fin_cons, fin, startE, sSeq, sIf, sNext, sRet, sRetN, sDrop, sAsg, sSetI, sPar, gSets, gSet, gTup', gCons', gNil', DV.comps, tQ, tE, tNot', tAnd', tOr', qVar, qC, qOp, eOp, qUn, eUn, qMk, eMk, qIf, eIf, bQ, qAnd, qOr, qNot, qChain, DV.bool?, aNil, aCons, aeNil, aeCons, ofQ, eMove, g_zero, g_succ, DV.lend, DV.owned, DV.light, dIx_tup, dIx_lst, dIx_ro, dIx_fz, dIx_ml, dIx_mr, dIx_mt, dAdd_int, dSub_int, dNeg_int, dLt_int, dLe_int, dGt_int, dGe_int, dInt_int, dLen_tup, dLen_lst, dLen_ro, dLen_fz, mkT, mkL, pures, sAug, eAppend, isL, dAppend, dSetI, amQ, amE, eCallM, eCall, qCall, oNone, oSome, qSl, dSl_tup, dSl_lst, dSl_ro, dSl_fz, dTuple_lst, dTuple_ro, dTuple_tup, dList_lst, dList_ro, dList_tup, dMin2_int, dMax2_int, dAbs_int, dEq_int, dNe_int, sCnt, sBrk, sNever, atI_0, atI_1, atI_2, sizeLine_eq, Option.bind_some, Option.map_some, Option.bind_none, Option.map_none, List.length_cons, List.length_nil, List.set_cons_zero, List.set_cons_succ, List.getElem?_cons_zero, List.getElem?_cons_succ, List.map_cons, List.map_nil, List.cons_append, List.nil_append, List.replicate, a, hl]
  · simp [runF, modeOk, fin_cons, fin, startE, sSeq, sIf, sNext, sRet, sRetN, sDrop, sAsg, sSetI, sPar, gSets, gSet, gTup', gCons', gNil', DV.comps, tQ, tE, tNot', tAnd', tOr', qVar, qC, qOp, eOp, qUn, eUn, qMk, eMk, qIf, eIf, bQ, qAnd, qOr, qNot, qChain, DV.bool?, aNil, aCons, aeNil, aeCons, ofQ, eMove, g_zero, g_succ, DV.lend, DV.owned, DV.light, dIx_tup, dIx_lst, dIx_ro, dIx_fz, dIx_ml, dIx_mr, dIx_mt, dAdd_int, dSub_int, dNeg_int, dLt_int, dLe_int, dGt_int, dGe_int, dInt_int, dLen_tup, dLen_lst, dLen_ro, dLen_fz, mkT, mkL, pures, sAug, eAppend, isL, dAppend, dSetI, amQ, amE, eCallM, eCall, qCall, oNone, oSome, qSl, dSl_tup, dSl_lst, dSl_ro, dSl_fz, dTuple_lst, dTuple_ro, dTuple_tup, dList_lst, dList_ro, dList_tup, dMin2_int, dMax2_int, dAbs_int, dEq_int, dNe_int, sCnt, sBrk, sNever, atI_0, atI_1, atI_2, sizeLine_eq, Option.bind_some, Option.map_some, Option.bind_none, Option.map_none, List.length_cons, List.length_nil, List.set_cons_zero, List.set_cons_succ, List.getElem?_cons_zero, List.getElem?_cons_succ, List.map_cons, List.map_nil, List.cons_append, List.nil_append, List.replicate]
  · simp only [fW, qF, lightE, aCons, aNil, qVar]
    simp [DV.lend, g_zero, g_succ, z3D_tup, zip3_ints, DV.light]
  · exact ret_q rfl rfl
theorem sPl : PyData.strOk "plan" = true := by decide +kernel
theorem sCr : PyData.strOk "crowd" = true := by decide +kernel
theorem ePP : dEq (.p (.str "plan")) (.p (.str "plan")) = some (.p (.bl true)) := (dEq_str sPl sPl).trans (by rw [show (("plan" : Str) == "plan") = true from by decide +kernel])
theorem eCC : dEq (.p (.str "crowd")) (.p (.str "crowd")) = some (.p (.bl true)) := (dEq_str sCr sCr).trans (by rw [show (("crowd" : Str) == "crowd") = true from by decide +kernel])
theorem ePC : dEq (.p (.str "plan")) (.p (.str "crowd")) = some (.p (.bl false)) := (dEq_str sPl sCr).trans (by rw [show (("plan" : Str) == "crowd") = false from by decide +kernel])
theorem eCP : dEq (.p (.str "crowd")) (.p (.str "plan")) = some (.p (.bl false)) := (dEq_str sCr sPl).trans (by rw [show (("crowd" : Str) == "plan") = false from by decide +kernel])
theorem nCC : dNe (.p (.str "crowd")) (.p (.str "crowd")) = some (.p (.bl false)) := (dNe_str sCr sCr).trans (by rw [show (("crowd" : Str) == "crowd") = true from by decide +kernel]; rfl)
theorem told_2 (x : PV) : m_is_told [.p (.tup [.str "plan", x]), .p (.tup [.int 2, .int 3])] = some (.p (.bl true), [.p (.tup [.str "plan", x]), .p (.tup [.int 2, .int 3])]) := by
  simp [m_is_told, b_is_told, runF, modeOk, fin_cons, fin, startE, sSeq, sIf, sNext, sRet, sRetN, sDrop, sAsg, sSetI, sPar, gSets, gSet, gTup', gCons', gNil', DV.comps, tQ, tE, tNot', tAnd', tOr', qVar, qC, qOp, eOp, qUn, eUn, qMk, eMk, qIf, eIf, bQ, qAnd, qOr, qNot, qChain, DV.bool?, aNil, aCons, aeNil, aeCons, ofQ, eMove, g_zero, g_succ, DV.lend, DV.owned, DV.light, dIx_tup, dIx_lst, dIx_ro, dIx_fz, dIx_ml, dIx_mr, dIx_mt, dAdd_int, dSub_int, dNeg_int, dLt_int, dLe_int, dGt_int, dGe_int, dInt_int, dLen_tup, dLen_lst, dLen_ro, dLen_fz, mkT, mkL, pures, sAug, eAppend, isL, dAppend, dSetI, amQ, amE, eCallM, eCall, qCall, oNone, oSome, qSl, dSl_tup, dSl_lst, dSl_ro, dSl_fz, dTuple_lst, dTuple_ro, dTuple_tup, dList_lst, dList_ro, dList_tup, dMin2_int, dMax2_int, dAbs_int, dEq_int, dNe_int, sCnt, sBrk, sNever, atI_0, atI_1, atI_2, sizeLine_eq, Option.bind_some, Option.map_some, Option.bind_none, Option.map_none, List.length_cons, List.length_nil, List.set_cons_zero, List.set_cons_succ, List.getElem?_cons_zero, List.getElem?_cons_succ, List.map_cons, List.map_nil, List.cons_append, List.nil_append, List.replicate, dIsi, dIn, inAns, PV.v?, vsOf, DV.seq, flatV, inV, eqV]
theorem told_3 (x y : PV) : m_is_told [.p (.tup [.str "crowd", x, y]), .p (.tup [.int 2, .int 3])] = some (.p (.bl true), [.p (.tup [.str "crowd", x, y]), .p (.tup [.int 2, .int 3])]) := by
  simp [m_is_told, b_is_told, runF, modeOk, fin_cons, fin, startE, sSeq, sIf, sNext, sRet, sRetN, sDrop, sAsg, sSetI, sPar, gSets, gSet, gTup', gCons', gNil', DV.comps, tQ, tE, tNot', tAnd', tOr', qVar, qC, qOp, eOp, qUn, eUn, qMk, eMk, qIf, eIf, bQ, qAnd, qOr, qNot, qChain, DV.bool?, aNil, aCons, aeNil, aeCons, ofQ, eMove, g_zero, g_succ, DV.lend, DV.owned, DV.light, dIx_tup, dIx_lst, dIx_ro, dIx_fz, dIx_ml, dIx_mr, dIx_mt, dAdd_int, dSub_int, dNeg_int, dLt_int, dLe_int, dGt_int, dGe_int, dInt_int, dLen_tup, dLen_lst, dLen_ro, dLen_fz, mkT, mkL, pures, sAug, eAppend, isL, dAppend, dSetI, amQ, amE, eCallM, eCall, qCall, oNone, oSome, qSl, dSl_tup, dSl_lst, dSl_ro, dSl_fz, dTuple_lst, dTuple_ro, dTuple_tup, dList_lst, dList_ro, dList_tup, dMin2_int, dMax2_int, dAbs_int, dEq_int, dNe_int, sCnt, sBrk, sNever, atI_0, atI_1, atI_2, sizeLine_eq, Option.bind_some, Option.map_some, Option.bind_none, Option.map_none, List.length_cons, List.length_nil, List.set_cons_zero, List.set_cons_succ, List.getElem?_cons_zero, List.getElem?_cons_succ, List.map_cons, List.map_nil, List.cons_append, List.nil_append, List.replicate, dIsi, dIn, inAns, PV.v?, vsOf, DV.seq, flatV, inV, eqV]
theorem how_ok {M W : List Int} {room : Int} {fi se : Nat} (h : Sto M W) (h1 : fi ≤ se) (h2 : se < M.length) : ∃ r, m_how_much [T M, T W, .p (.int room), .p (.int (fi : Nat)), .p (.int (se : Nat))] = some (.p (.tup [.int (seg W fi (se + 1)).sum, .int ((seg M fi (se + 1)).sum + if 0 < fi then room else 0)]), r) := by
  have c1 := cut_seg M (b := fi) (e := se + 1) (by omega) (by omega)
  have c2 := cut_seg W (b := fi) (e := se + 1) (by omega) (by have := h.eq; omega)
  have e1 : ((se + 1 : Nat) : Int) = (se : Int) + 1 := by omega
  rw [e1] at c1 c2
  refine ⟨[T M, T W, .p (.int room), .p (.int (fi : Nat)), .p (.int (se : Nat))], ?_⟩
  by_cases hf : 0 < fi
  · simp [m_how_much, b_how_much, runF, modeOk, fin_cons, fin, startE, sSeq, sIf, sNext, sRet, sRetN, sDrop, sAsg, sSetI, sPar, gSets, gSet, gTup', gCons', gNil', DV.comps, tQ, tE, tNot', tAnd', tOr', qVar, qC, qOp, eOp, qUn, eUn, qMk, eMk, qIf, eIf, bQ, qAnd, qOr, qNot, qChain, DV.bool?, aNil, aCons, aeNil, aeCons, ofQ, eMove, g_zero, g_succ, DV.lend, DV.owned, DV.light, dIx_tup, dIx_lst, dIx_ro, dIx_fz, dIx_ml, dIx_mr, dIx_mt, dAdd_int, dSub_int, dNeg_int, dLt_int, dLe_int, dGt_int, dGe_int, dInt_int, dLen_tup, dLen_lst, dLen_ro, dLen_fz, mkT, mkL, pures, sAug, eAppend, isL, dAppend, dSetI, amQ, amE, eCallM, eCall, qCall, oNone, oSome, qSl, dSl_tup, dSl_lst, dSl_ro, dSl_fz, dTuple_lst, dTuple_ro, dTuple_tup, dList_lst, dList_ro, dList_tup, dMin2_int, dMax2_int, dAbs_int, dEq_int, dNe_int, sCnt, sBrk, sNever, atI_0, atI_1, atI_2, sizeLine_eq, Option.bind_some, Option.map_some, Option.bind_none, Option.map_none, List.length_cons, List.length_nil, List.set_cons_zero, List.set_cons_succ, List.getElem?_cons_zero, List.getElem?_cons_succ, List.map_cons, List.map_nil, List.cons_append, List.nil_append, List.replicate, c1, c2, dSumA_tup, hf]
  · simp [m_how_much, b_how_much, runF, modeOk, fin_cons, fin, startE, sSeq, sIf, sNext, sRet, sRetN, sDrop, sAsg, sSetI, sPar, gSets, gSet, gTup', gCons', gNil', DV.comps, tQ, tE, tNot', tAnd', tOr', qVar, qC, qOp, eOp, qUn, eUn, qMk, eMk, qIf, eIf, bQ, qAnd, qOr, qNot, qChain, DV.bool?, aNil, aCons, aeNil, aeCons, ofQ, eMove, g_zero, g_succ, DV.lend, DV.owned, DV.light, dIx_tup, dIx_lst, dIx_ro, dIx_fz, dIx_ml, dIx_mr, dIx_mt, dAdd_int, dSub_int, dNeg_int, dLt_int, dLe_int, dGt_int, dGe_int, dInt_int, dLen_tup, dLen_lst, dLen_ro, dLen_fz, mkT, mkL, pures, sAug, eAppend, isL, dAppend, dSetI, amQ, amE, eCallM, eCall, qCall, oNone, oSome, qSl, dSl_tup, dSl_lst, dSl_ro, dSl_fz, dTuple_lst, dTuple_ro, dTuple_tup, dList_lst, dList_ro, dList_tup, dMin2_int, dMax2_int, dAbs_int, dEq_int, dNe_int, sCnt, sBrk, sNever, atI_0, atI_1, atI_2, sizeLine_eq, Option.bind_some, Option.map_some, Option.bind_none, Option.map_none, List.length_cons, List.length_nil, List.set_cons_zero, List.set_cons_succ, List.getElem?_cons_zero, List.getElem?_cons_succ, List.map_cons, List.map_nil, List.cons_append, List.nil_append, List.replicate, c1, c2, dSumA_tup, hf]
theorem shows_plan {M W P : List Int} {room : Int} (h : Sto M W) (r0 : 0 ≤ room) (r1 : room ≤ 1000000) (hP : Rng 0 1000000 P) (hl : P.length = M.length) (ho : okT room 0 (M.zip (W.zip P))) : ∃ r, m_shows_store [T M, T W, .p (.int room), .p (.tup [.str "plan", .tup (P.map PV.int)])] = some (.p (.bl true), r) := by
  obtain ⟨_, a⟩ := look_sto h r0 r1
  obtain ⟨_, b⟩ := does_ok h hP hl ho
  refine ⟨[T M, T W, .p (.int room), .p (.tup [.str "plan", .tup (P.map PV.int)])], ?_⟩
  simp [m_shows_store, b_shows_store, runF, modeOk, fin_cons, fin, startE, sSeq, sIf, sNext, sRet, sRetN, sDrop, sAsg, sSetI, sPar, gSets, gSet, gTup', gCons', gNil', DV.comps, tQ, tE, tNot', tAnd', tOr', qVar, qC, qOp, eOp, qUn, eUn, qMk, eMk, qIf, eIf, bQ, qAnd, qOr, qNot, qChain, DV.bool?, aNil, aCons, aeNil, aeCons, ofQ, eMove, g_zero, g_succ, DV.lend, DV.owned, DV.light, dIx_tup, dIx_lst, dIx_ro, dIx_fz, dIx_ml, dIx_mr, dIx_mt, dAdd_int, dSub_int, dNeg_int, dLt_int, dLe_int, dGt_int, dGe_int, dInt_int, dLen_tup, dLen_lst, dLen_ro, dLen_fz, mkT, mkL, pures, sAug, eAppend, isL, dAppend, dSetI, amQ, amE, eCallM, eCall, qCall, oNone, oSome, qSl, dSl_tup, dSl_lst, dSl_ro, dSl_fz, dTuple_lst, dTuple_ro, dTuple_tup, dList_lst, dList_ro, dList_tup, dMin2_int, dMax2_int, dAbs_int, dEq_int, dNe_int, sCnt, sBrk, sNever, atI_0, atI_1, atI_2, sizeLine_eq, Option.bind_some, Option.map_some, Option.bind_none, Option.map_none, List.length_cons, List.length_nil, List.set_cons_zero, List.set_cons_succ, List.getElem?_cons_zero, List.getElem?_cons_succ, List.map_cons, List.map_nil, List.cons_append, List.nil_append, List.replicate, a, told_2, ePP, b]
theorem shows_crowd {M W : List Int} {room : Int} {fi se : Nat} (h : Sto M W) (r0 : 0 ≤ room) (r1 : room ≤ 1000000) (hF : Found M W room fi se) : ∃ r, m_shows_store [T M, T W, .p (.int room), .p (.tup [.str "crowd", .int (fi : Nat), .int (se : Nat)])] = some (.p (.bl true), r) := by
  obtain ⟨_, a⟩ := look_sto h r0 r1
  obtain ⟨_, b⟩ := how_ok (room := room) h hF.1 hF.2.1
  have c := are_ints_ok (xs := [(fi : Int), (se : Int)]) (lo := 0) (hi := (M.length : Int) - 1) (by have := hF.1; have := hF.2.1; simp; omega) (by simp)
  simp only [List.map_cons, List.map_nil] at c
  have hle : ¬ (se : Int) < (fi : Int) := by have := hF.1; omega
  refine ⟨[T M, T W, .p (.int room), .p (.tup [.str "crowd", .int (fi : Nat), .int (se : Nat)])], ?_⟩
  have hlt := hF.2.2
  simp [m_shows_store, b_shows_store, runF, modeOk, fin_cons, fin, startE, sSeq, sIf, sNext, sRet, sRetN, sDrop, sAsg, sSetI, sPar, gSets, gSet, gTup', gCons', gNil', DV.comps, tQ, tE, tNot', tAnd', tOr', qVar, qC, qOp, eOp, qUn, eUn, qMk, eMk, qIf, eIf, bQ, qAnd, qOr, qNot, qChain, DV.bool?, aNil, aCons, aeNil, aeCons, ofQ, eMove, g_zero, g_succ, DV.lend, DV.owned, DV.light, dIx_tup, dIx_lst, dIx_ro, dIx_fz, dIx_ml, dIx_mr, dIx_mt, dAdd_int, dSub_int, dNeg_int, dLt_int, dLe_int, dGt_int, dGe_int, dInt_int, dLen_tup, dLen_lst, dLen_ro, dLen_fz, mkT, mkL, pures, sAug, eAppend, isL, dAppend, dSetI, amQ, amE, eCallM, eCall, qCall, oNone, oSome, qSl, dSl_tup, dSl_lst, dSl_ro, dSl_fz, dTuple_lst, dTuple_ro, dTuple_tup, dList_lst, dList_ro, dList_tup, dMin2_int, dMax2_int, dAbs_int, dEq_int, dNe_int, sCnt, sBrk, sNever, atI_0, atI_1, atI_2, sizeLine_eq, Option.bind_some, Option.map_some, Option.bind_none, Option.map_none, List.length_cons, List.length_nil, List.set_cons_zero, List.set_cons_succ, List.getElem?_cons_zero, List.getElem?_cons_succ, List.map_cons, List.map_nil, List.cons_append, List.nil_append, List.replicate, a, told_3, eCP, nCC, cutL_lo1, qCallL, DV.lends, c, hle, b, hlt]
end k25G

set_option Elab.async false
set_option linter.all false
set_option maxRecDepth 100000
set_option maxHeartbeats 0
namespace k25G
open PySem PySem.Spec PyProof.Rows L2 Sm k25M
theorem sto_pairs {M W : List Int} (h : Sto M W) : ∀ x ∈ M.zip W, (0 ≤ x.1 ∧ x.1 ≤ 1000000) ∧ 0 ≤ x.2 ∧ x.2 ≤ 1000000 := by
  rintro ⟨m, w⟩ hx
  obtain ⟨a, b⟩ := List.of_mem_zip hx
  exact ⟨h.m m a, h.w w b⟩
theorem zip_len {M W : List Int} (h : Sto M W) : (M.zip W).length = M.length := by rw [List.length_zip, h.eq]; exact Nat.min_self _
theorem plan_rng {M W : List Int} (h : Sto M W) : Rng 0 1000000 (plan (M.zip W)) := by
  have hp := sto_pairs h
  generalize M.zip W = r at hp
  induction r with
  | nil => intro x hx; simp [plan] at hx
  | cons a r ih =>
    obtain ⟨m, w⟩ := a
    intro x hx
    simp only [plan] at hx
    have h1 := hp (m, w) (by simp)
    have hn := need_nn r
    rcases List.mem_cons.mp hx with rfl | hx
    · simp only at h1; omega
    · exact ih (fun y q => hp y (by simp [q])) x hx
theorem plan_okT {M W : List Int} {room : Int} (h : Sto M W) (hr : 0 ≤ room) (hs : short room 0 (M.zip W) = false) : okT room 0 (M.zip (W.zip (plan (M.zip W)))) := by
  obtain ⟨a, b⟩ := (short_iff hr (Int.le_refl 0)).mp hs
  have hn := need_nn (M.zip W)
  have e : need (M.zip W) = 0 := by omega
  have := plan_ok (room := room) (r := M.zip W) (fun x q => ⟨(sto_pairs h x q).1.1, (sto_pairs h x q).2.1⟩) b
  rw [e] at this
  exact okT_of this
theorem store_ok {M W : List Int} {room : Int} (h : Sto M W) (r0 : 0 ≤ room) (r1 : room ≤ 1000000) :
    (short room 0 (M.zip W) = false ∧ ∃ r, m_store [T M, T W, .p (.int room)] = some (.p (.tup [.str "plan", .tup ((plan (M.zip W)).map PV.int)]), r)) ∨
    (short room 0 (M.zip W) = true ∧ ∃ (fi se : Nat) (r : List DV), Found M W room fi se ∧ m_store [T M, T W, .p (.int room)] = some (.p (.tup [.str "crowd", .int (fi : Nat), .int (se : Nat)]), r)) := by
  obtain ⟨_, a⟩ := look_sto h r0 r1
  obtain ⟨_, b⟩ := told_plan_ok h
  rcases told_short_ok M W room with ⟨hs, _, c⟩ | ⟨hs, fi, se, _, hF, c⟩
  · exact .inl ⟨hs, [T M, T W, .p (.int room)], by simp [m_store, b_store, runF, modeOk, fin_cons, fin, startE, sSeq, sIf, sNext, sRet, sRetN, sDrop, sAsg, sSetI, sPar, gSets, gSet, gTup', gCons', gNil', DV.comps, tQ, tE, tNot', tAnd', tOr', qVar, qC, qOp, eOp, qUn, eUn, qMk, eMk, qIf, eIf, bQ, qAnd, qOr, qNot, qChain, DV.bool?, aNil, aCons, aeNil, aeCons, ofQ, eMove, g_zero, g_succ, DV.lend, DV.owned, DV.light, dIx_tup, dIx_lst, dIx_ro, dIx_fz, dIx_ml, dIx_mr, dIx_mt, dAdd_int, dSub_int, dNeg_int, dLt_int, dLe_int, dGt_int, dGe_int, dInt_int, dLen_tup, dLen_lst, dLen_ro, dLen_fz, mkT, mkL, pures, sAug, eAppend, isL, dAppend, dSetI, amQ, amE, eCallM, eCall, qCall, oNone, oSome, qSl, dSl_tup, dSl_lst, dSl_ro, dSl_fz, dTuple_lst, dTuple_ro, dTuple_tup, dList_lst, dList_ro, dList_tup, dMin2_int, dMax2_int, dAbs_int, dEq_int, dNe_int, sCnt, sBrk, sNever, atI_0, atI_1, atI_2, sizeLine_eq, Option.bind_some, Option.map_some, Option.bind_none, Option.map_none, List.length_cons, List.length_nil, List.set_cons_zero, List.set_cons_succ, List.getElem?_cons_zero, List.getElem?_cons_succ, List.map_cons, List.map_nil, List.cons_append, List.nil_append, List.replicate, a, b, c, dIsnot, isN, aStar]⟩
  · exact .inr ⟨hs, fi, se, [T M, T W, .p (.int room)], hF, by simp [m_store, b_store, runF, modeOk, fin_cons, fin, startE, sSeq, sIf, sNext, sRet, sRetN, sDrop, sAsg, sSetI, sPar, gSets, gSet, gTup', gCons', gNil', DV.comps, tQ, tE, tNot', tAnd', tOr', qVar, qC, qOp, eOp, qUn, eUn, qMk, eMk, qIf, eIf, bQ, qAnd, qOr, qNot, qChain, DV.bool?, aNil, aCons, aeNil, aeCons, ofQ, eMove, g_zero, g_succ, DV.lend, DV.owned, DV.light, dIx_tup, dIx_lst, dIx_ro, dIx_fz, dIx_ml, dIx_mr, dIx_mt, dAdd_int, dSub_int, dNeg_int, dLt_int, dLe_int, dGt_int, dGe_int, dInt_int, dLen_tup, dLen_lst, dLen_ro, dLen_fz, mkT, mkL, pures, sAug, eAppend, isL, dAppend, dSetI, amQ, amE, eCallM, eCall, qCall, oNone, oSome, qSl, dSl_tup, dSl_lst, dSl_ro, dSl_fz, dTuple_lst, dTuple_ro, dTuple_tup, dList_lst, dList_ro, dList_tup, dMin2_int, dMax2_int, dAbs_int, dEq_int, dNe_int, sCnt, sBrk, sNever, atI_0, atI_1, atI_2, sizeLine_eq, Option.bind_some, Option.map_some, Option.bind_none, Option.map_none, List.length_cons, List.length_nil, List.set_cons_zero, List.set_cons_succ, List.getElem?_cons_zero, List.getElem?_cons_succ, List.map_cons, List.map_nil, List.cons_append, List.nil_append, List.replicate, a, b, c, dIsnot, isN, aStar, DV.items]⟩
def str2 (s : Int × Int) (x : Int × Int) : Int × Int := (s.1 + x.1 - x.2, max s.2 (s.1 + x.1 - x.2))
theorem room_fold : ∀ (M W : List Int) (f : Int), M.length = W.length → ((plan (M.zip W)).zip W).foldl str2 (need (M.zip W), f) = (0, max f (mxn (M.zip W))) ∨ (M = [] ∧ W = [])
  | [], [], _, _ => .inr ⟨rfl, rfl⟩
  | [], _ :: _, _, h => by simp at h
  | _ :: _, [], _, h => by simp at h
  | m :: M, w :: W, f, h => by
    left
    simp only [List.zip_cons_cons, plan, List.foldl_cons, str2]
    have e : need ((m, w) :: M.zip W) + min m (need (M.zip W) + w) - w = need (M.zip W) := by simp only [need]; omega
    rw [e]
    have hn := need_nn (M.zip W)
    rcases room_fold M W (max f (need (M.zip W))) (by simpa using h) with ih | ⟨rfl, rfl⟩
    · rw [show (List.foldl str2 (need (M.zip W), max f (need (M.zip W))) ((plan (M.zip W)).zip W)) = _ from ih]
      congr 1
      simp only [mxn]; omega
    · simp [need, mxn, plan]
theorem least_room_ok {M W : List Int} (h : Sto M W) : (short 100000000 0 (M.zip W) = true ∧ ∃ r, m_least_room [T M, T W] = some (.p .non, r)) ∨ (short 100000000 0 (M.zip W) = false ∧ ∃ r, m_least_room [T M, T W] = some (.p (.int (mxn (M.zip W))), r)) := by
  obtain ⟨_, a⟩ := look_sto (room := 0) h (by decide) (by decide)
  obtain ⟨_, b⟩ := told_plan_ok h
  have hm : mulOk 1000000 100 = true := mulOk_l (by decide) (by decide)
  rcases told_short_ok M W 100000000 with ⟨hs, _, c⟩ | ⟨hs, fi, se, _, hF, c⟩
  · refine .inr ⟨hs, [T M, T W], ?_⟩
    obtain ⟨n1, n2⟩ := (short_iff (by decide) (Int.le_refl 0)).mp hs
    have hn := need_nn (M.zip W)
    have en : need (M.zip W) = 0 := by omega
    have hmx := mxn_nn (M.zip W)
    obtain ⟨e', h1, ⟨⟨p4, p5, rfl⟩, _⟩⟩ := forL_fold (t := gTup' 2 (gCons' (gSet 4) (gCons' (gSet 5) (gNil')))) (b := b_least_room_1) (fun p : Int × Int => DV.p (.tup [.int p.1, .int p.2]))
      (fun s e => ∃ o4 o5, e = [some (T M), some (T W), some (.p (.int s.1)), some (.p (.int s.2)), o4, o5]) str2 (fun _ _ => True) ((plan (M.zip W)).zip W) (0, 0) [some (T M), some (T W), some (.p (.int 0)), some (.p (.int 0)), none, none] ⟨none, none, rfl⟩ trivial (by
        rintro s ⟨p, w⟩ r e - ⟨o4, o5, rfl⟩
        have e1 : s.1 + (p - w) = s.1 + p - w := by omega
        refine ⟨_, [some (T M), some (T W), some (.p (.int (str2 s (p, w)).1)), some (.p (.int (str2 s (p, w)).2)), some (.p (.int p)), some (.p (.int w))], by simp [runF, modeOk, fin_cons, fin, startE, sSeq, sIf, sNext, sRet, sRetN, sDrop, sAsg, sSetI, sPar, gSets, gSet, gTup', gCons', gNil', DV.comps, tQ, tE, tNot', tAnd', tOr', qVar, qC, qOp, eOp, qUn, eUn, qMk, eMk, qIf, eIf, bQ, qAnd, qOr, qNot, qChain, DV.bool?, aNil, aCons, aeNil, aeCons, ofQ, eMove, g_zero, g_succ, DV.lend, DV.owned, DV.light, dIx_tup, dIx_lst, dIx_ro, dIx_fz, dIx_ml, dIx_mr, dIx_mt, dAdd_int, dSub_int, dNeg_int, dLt_int, dLe_int, dGt_int, dGe_int, dInt_int, dLen_tup, dLen_lst, dLen_ro, dLen_fz, mkT, mkL, pures, sAug, eAppend, isL, dAppend, dSetI, amQ, amE, eCallM, eCall, qCall, oNone, oSome, qSl, dSl_tup, dSl_lst, dSl_ro, dSl_fz, dTuple_lst, dTuple_ro, dTuple_tup, dList_lst, dList_ro, dList_tup, dMin2_int, dMax2_int, dAbs_int, dEq_int, dNe_int, sCnt, sBrk, sNever, atI_0, atI_1, atI_2, sizeLine_eq, Option.bind_some, Option.map_some, Option.bind_none, Option.map_none, List.length_cons, List.length_nil, List.set_cons_zero, List.set_cons_succ, List.getElem?_cons_zero, List.getElem?_cons_succ, List.map_cons, List.map_nil, List.cons_append, List.nil_append, List.replicate]; rfl, .inl ?_, ⟨_, _, rfl⟩, trivial⟩
        simp [b_least_room_1, runF, modeOk, fin_cons, fin, startE, sSeq, sIf, sNext, sRet, sRetN, sDrop, sAsg, sSetI, sPar, gSets, gSet, gTup', gCons', gNil', DV.comps, tQ, tE, tNot', tAnd', tOr', qVar, qC, qOp, eOp, qUn, eUn, qMk, eMk, qIf, eIf, bQ, qAnd, qOr, qNot, qChain, DV.bool?, aNil, aCons, aeNil, aeCons, ofQ, eMove, g_zero, g_succ, DV.lend, DV.owned, DV.light, dIx_tup, dIx_lst, dIx_ro, dIx_fz, dIx_ml, dIx_mr, dIx_mt, dAdd_int, dSub_int, dNeg_int, dLt_int, dLe_int, dGt_int, dGe_int, dInt_int, dLen_tup, dLen_lst, dLen_ro, dLen_fz, mkT, mkL, pures, sAug, eAppend, isL, dAppend, dSetI, amQ, amE, eCallM, eCall, qCall, oNone, oSome, qSl, dSl_tup, dSl_lst, dSl_ro, dSl_fz, dTuple_lst, dTuple_ro, dTuple_tup, dList_lst, dList_ro, dList_tup, dMin2_int, dMax2_int, dAbs_int, dEq_int, dNe_int, sCnt, sBrk, sNever, atI_0, atI_1, atI_2, sizeLine_eq, Option.bind_some, Option.map_some, Option.bind_none, Option.map_none, List.length_cons, List.length_nil, List.set_cons_zero, List.set_cons_succ, List.getElem?_cons_zero, List.getElem?_cons_succ, List.map_cons, List.map_nil, List.cons_append, List.nil_append, List.replicate, dII, e1, str2])
    have hfold : ((plan (M.zip W)).zip W).foldl str2 (0, 0) = (0, mxn (M.zip W)) := by
      rcases room_fold M W 0 h.eq.symm with q | ⟨rfl, rfl⟩
      · rw [en] at q
        rw [q]; congr 1; omega
      · rfl
    rw [hfold] at h1
    refine run_rt (by simp [modeOk, DV.light]) ?_ (e := [some (T M), some (T W), some (.p (.int 0)), some (.p (.int (mxn (M.zip W)))), p4, p5]) rfl
    unfold b_least_room
    refine (seq_nx (e := [some (T M), some (T W), none, none, none, none]) ?_).trans ((seq_nx (e := [some (T M), some (T W), none, none, none, none]) ?_).trans ((seq_nx (e := [some (T M), some (T W), some (.p (.int 0)), some (.p (.int 0)), none, none]) ?_).trans ((for_nx h1 ?_).trans ?_)))
    · simp [runF, modeOk, fin_cons, fin, startE, sSeq, sIf, sNext, sRet, sRetN, sDrop, sAsg, sSetI, sPar, gSets, gSet, gTup', gCons', gNil', DV.comps, tQ, tE, tNot', tAnd', tOr', qVar, qC, qOp, eOp, qUn, eUn, qMk, eMk, qIf, eIf, bQ, qAnd, qOr, qNot, qChain, DV.bool?, aNil, aCons, aeNil, aeCons, ofQ, eMove, g_zero, g_succ, DV.lend, DV.owned, DV.light, dIx_tup, dIx_lst, dIx_ro, dIx_fz, dIx_ml, dIx_mr, dIx_mt, dAdd_int, dSub_int, dNeg_int, dLt_int, dLe_int, dGt_int, dGe_int, dInt_int, dLen_tup, dLen_lst, dLen_ro, dLen_fz, mkT, mkL, pures, sAug, eAppend, isL, dAppend, dSetI, amQ, amE, eCallM, eCall, qCall, oNone, oSome, qSl, dSl_tup, dSl_lst, dSl_ro, dSl_fz, dTuple_lst, dTuple_ro, dTuple_tup, dList_lst, dList_ro, dList_tup, dMin2_int, dMax2_int, dAbs_int, dEq_int, dNe_int, sCnt, sBrk, sNever, atI_0, atI_1, atI_2, sizeLine_eq, Option.bind_some, Option.map_some, Option.bind_none, Option.map_none, List.length_cons, List.length_nil, List.set_cons_zero, List.set_cons_succ, List.getElem?_cons_zero, List.getElem?_cons_succ, List.map_cons, List.map_nil, List.cons_append, List.nil_append, List.replicate, a]
    · simp [runF, modeOk, fin_cons, fin, startE, sSeq, sIf, sNext, sRet, sRetN, sDrop, sAsg, sSetI, sPar, gSets, gSet, gTup', gCons', gNil', DV.comps, tQ, tE, tNot', tAnd', tOr', qVar, qC, qOp, eOp, qUn, eUn, qMk, eMk, qIf, eIf, bQ, qAnd, qOr, qNot, qChain, DV.bool?, aNil, aCons, aeNil, aeCons, ofQ, eMove, g_zero, g_succ, DV.lend, DV.owned, DV.light, dIx_tup, dIx_lst, dIx_ro, dIx_fz, dIx_ml, dIx_mr, dIx_mt, dAdd_int, dSub_int, dNeg_int, dLt_int, dLe_int, dGt_int, dGe_int, dInt_int, dLen_tup, dLen_lst, dLen_ro, dLen_fz, mkT, mkL, pures, sAug, eAppend, isL, dAppend, dSetI, amQ, amE, eCallM, eCall, qCall, oNone, oSome, qSl, dSl_tup, dSl_lst, dSl_ro, dSl_fz, dTuple_lst, dTuple_ro, dTuple_tup, dList_lst, dList_ro, dList_tup, dMin2_int, dMax2_int, dAbs_int, dEq_int, dNe_int, sCnt, sBrk, sNever, atI_0, atI_1, atI_2, sizeLine_eq, Option.bind_some, Option.map_some, Option.bind_none, Option.map_none, List.length_cons, List.length_nil, List.set_cons_zero, List.set_cons_succ, List.getElem?_cons_zero, List.getElem?_cons_succ, List.map_cons, List.map_nil, List.cons_append, List.nil_append, List.replicate, dMul_int, hm, c, dIsnot, isN]
    · simp [runF, modeOk, fin_cons, fin, startE, sSeq, sIf, sNext, sRet, sRetN, sDrop, sAsg, sSetI, sPar, gSets, gSet, gTup', gCons', gNil', DV.comps, tQ, tE, tNot', tAnd', tOr', qVar, qC, qOp, eOp, qUn, eUn, qMk, eMk, qIf, eIf, bQ, qAnd, qOr, qNot, qChain, DV.bool?, aNil, aCons, aeNil, aeCons, ofQ, eMove, g_zero, g_succ, DV.lend, DV.owned, DV.light, dIx_tup, dIx_lst, dIx_ro, dIx_fz, dIx_ml, dIx_mr, dIx_mt, dAdd_int, dSub_int, dNeg_int, dLt_int, dLe_int, dGt_int, dGe_int, dInt_int, dLen_tup, dLen_lst, dLen_ro, dLen_fz, mkT, mkL, pures, sAug, eAppend, isL, dAppend, dSetI, amQ, amE, eCallM, eCall, qCall, oNone, oSome, qSl, dSl_tup, dSl_lst, dSl_ro, dSl_fz, dTuple_lst, dTuple_ro, dTuple_tup, dList_lst, dList_ro, dList_tup, dMin2_int, dMax2_int, dAbs_int, dEq_int, dNe_int, sCnt, sBrk, sNever, atI_0, atI_1, atI_2, sizeLine_eq, Option.bind_some, Option.map_some, Option.bind_none, Option.map_none, List.length_cons, List.length_nil, List.set_cons_zero, List.set_cons_succ, List.getElem?_cons_zero, List.getElem?_cons_succ, List.map_cons, List.map_nil, List.cons_append, List.nil_append, List.replicate]
    · have hb : qO (qCall m_told_plan (aCons (qVar 0) (aCons (qVar 1) (aNil)))) [some (T M), some (T W), some (.p (.int 0)), some (.p (.int 0)), none, none] = some (T (plan (M.zip W))) := by
        simp [qO, runF, modeOk, fin_cons, fin, startE, sSeq, sIf, sNext, sRet, sRetN, sDrop, sAsg, sSetI, sPar, gSets, gSet, gTup', gCons', gNil', DV.comps, tQ, tE, tNot', tAnd', tOr', qVar, qC, qOp, eOp, qUn, eUn, qMk, eMk, qIf, eIf, bQ, qAnd, qOr, qNot, qChain, DV.bool?, aNil, aCons, aeNil, aeCons, ofQ, eMove, g_zero, g_succ, DV.lend, DV.owned, DV.light, dIx_tup, dIx_lst, dIx_ro, dIx_fz, dIx_ml, dIx_mr, dIx_mt, dAdd_int, dSub_int, dNeg_int, dLt_int, dLe_int, dGt_int, dGe_int, dInt_int, dLen_tup, dLen_lst, dLen_ro, dLen_fz, mkT, mkL, pures, sAug, eAppend, isL, dAppend, dSetI, amQ, amE, eCallM, eCall, qCall, oNone, oSome, qSl, dSl_tup, dSl_lst, dSl_ro, dSl_fz, dTuple_lst, dTuple_ro, dTuple_tup, dList_lst, dList_ro, dList_tup, dMin2_int, dMax2_int, dAbs_int, dEq_int, dNe_int, sCnt, sBrk, sNever, atI_0, atI_1, atI_2, sizeLine_eq, Option.bind_some, Option.map_some, Option.bind_none, Option.map_none, List.length_cons, List.length_nil, List.set_cons_zero, List.set_cons_succ, List.getElem?_cons_zero, List.getElem?_cons_succ, List.map_cons, List.map_nil, List.cons_append, List.nil_append, List.replicate, b]
      simp only [fW, aCons, aNil, hb, Option.bind_some, Option.map_some]
      simp [qF, lightE, qVar, DV.lend, g_zero, g_succ, z2D_tup, zip_ints, DV.light]
    · simp [runF, modeOk, fin_cons, fin, startE, sSeq, sIf, sNext, sRet, sRetN, sDrop, sAsg, sSetI, sPar, gSets, gSet, gTup', gCons', gNil', DV.comps, tQ, tE, tNot', tAnd', tOr', qVar, qC, qOp, eOp, qUn, eUn, qMk, eMk, qIf, eIf, bQ, qAnd, qOr, qNot, qChain, DV.bool?, aNil, aCons, aeNil, aeCons, ofQ, eMove, g_zero, g_succ, DV.lend, DV.owned, DV.light, dIx_tup, dIx_lst, dIx_ro, dIx_fz, dIx_ml, dIx_mr, dIx_mt, dAdd_int, dSub_int, dNeg_int, dLt_int, dLe_int, dGt_int, dGe_int, dInt_int, dLen_tup, dLen_lst, dLen_ro, dLen_fz, mkT, mkL, pures, sAug, eAppend, isL, dAppend, dSetI, amQ, amE, eCallM, eCall, qCall, oNone, oSome, qSl, dSl_tup, dSl_lst, dSl_ro, dSl_fz, dTuple_lst, dTuple_ro, dTuple_tup, dList_lst, dList_ro, dList_tup, dMin2_int, dMax2_int, dAbs_int, dEq_int, dNe_int, sCnt, sBrk, sNever, atI_0, atI_1, atI_2, sizeLine_eq, Option.bind_some, Option.map_some, Option.bind_none, Option.map_none, List.length_cons, List.length_nil, List.set_cons_zero, List.set_cons_succ, List.getElem?_cons_zero, List.getElem?_cons_succ, List.map_cons, List.map_nil, List.cons_append, List.nil_append, List.replicate]
  · refine .inl ⟨hs, [T M, T W], ?_⟩
    refine run_rt (by simp [modeOk, DV.light]) ?_ (e := [some (T M), some (T W), none, none, none, none]) rfl
    unfold b_least_room
    refine (seq_nx (e := [some (T M), some (T W), none, none, none, none]) ?_).trans (seq_rt ?_)
    · simp [runF, modeOk, fin_cons, fin, startE, sSeq, sIf, sNext, sRet, sRetN, sDrop, sAsg, sSetI, sPar, gSets, gSet, gTup', gCons', gNil', DV.comps, tQ, tE, tNot', tAnd', tOr', qVar, qC, qOp, eOp, qUn, eUn, qMk, eMk, qIf, eIf, bQ, qAnd, qOr, qNot, qChain, DV.bool?, aNil, aCons, aeNil, aeCons, ofQ, eMove, g_zero, g_succ, DV.lend, DV.owned, DV.light, dIx_tup, dIx_lst, dIx_ro, dIx_fz, dIx_ml, dIx_mr, dIx_mt, dAdd_int, dSub_int, dNeg_int, dLt_int, dLe_int, dGt_int, dGe_int, dInt_int, dLen_tup, dLen_lst, dLen_ro, dLen_fz, mkT, mkL, pures, sAug, eAppend, isL, dAppend, dSetI, amQ, amE, eCallM, eCall, qCall, oNone, oSome, qSl, dSl_tup, dSl_lst, dSl_ro, dSl_fz, dTuple_lst, dTuple_ro, dTuple_tup, dList_lst, dList_ro, dList_tup, dMin2_int, dMax2_int, dAbs_int, dEq_int, dNe_int, sCnt, sBrk, sNever, atI_0, atI_1, atI_2, sizeLine_eq, Option.bind_some, Option.map_some, Option.bind_none, Option.map_none, List.length_cons, List.length_nil, List.set_cons_zero, List.set_cons_succ, List.getElem?_cons_zero, List.getElem?_cons_succ, List.map_cons, List.map_nil, List.cons_append, List.nil_append, List.replicate, a]
    · simp [runF, modeOk, fin_cons, fin, startE, sSeq, sIf, sNext, sRet, sRetN, sDrop, sAsg, sSetI, sPar, gSets, gSet, gTup', gCons', gNil', DV.comps, tQ, tE, tNot', tAnd', tOr', qVar, qC, qOp, eOp, qUn, eUn, qMk, eMk, qIf, eIf, bQ, qAnd, qOr, qNot, qChain, DV.bool?, aNil, aCons, aeNil, aeCons, ofQ, eMove, g_zero, g_succ, DV.lend, DV.owned, DV.light, dIx_tup, dIx_lst, dIx_ro, dIx_fz, dIx_ml, dIx_mr, dIx_mt, dAdd_int, dSub_int, dNeg_int, dLt_int, dLe_int, dGt_int, dGe_int, dInt_int, dLen_tup, dLen_lst, dLen_ro, dLen_fz, mkT, mkL, pures, sAug, eAppend, isL, dAppend, dSetI, amQ, amE, eCallM, eCall, qCall, oNone, oSome, qSl, dSl_tup, dSl_lst, dSl_ro, dSl_fz, dTuple_lst, dTuple_ro, dTuple_tup, dList_lst, dList_ro, dList_tup, dMin2_int, dMax2_int, dAbs_int, dEq_int, dNe_int, sCnt, sBrk, sNever, atI_0, atI_1, atI_2, sizeLine_eq, Option.bind_some, Option.map_some, Option.bind_none, Option.map_none, List.length_cons, List.length_nil, List.set_cons_zero, List.set_cons_succ, List.getElem?_cons_zero, List.getElem?_cons_succ, List.map_cons, List.map_nil, List.cons_append, List.nil_append, List.replicate, dMul_int, hm, c, dIsnot, isN]
theorem room_law {M W : List Int} (h : Sto M W) : (short 100000000 0 (M.zip W) = true → short 1000000000 0 (M.zip W) = true) ∧ (short 100000000 0 (M.zip W) = false → short (mxn (M.zip W)) 0 (M.zip W) = false ∧ (mxn (M.zip W) = 0 ∨ short (mxn (M.zip W) - 1) 0 (M.zip W) = true)) := by
  have hp := sto_pairs h
  obtain ⟨b1, b2⟩ := need_sum (r := M.zip W) (b := 1000000) (fun x q => (hp x q).1.1) fun x q => (hp x q).2
  have hl : ((M.zip W).length : Int) ≤ 100 := by rw [zip_len h]; have := h.len; omega
  have hm := mxn_nn (M.zip W)
  refine ⟨fun hs => ?_, fun hs => ?_⟩
  · cases hq : short 1000000000 0 (M.zip W) with
    | true => rfl
    | false =>
      obtain ⟨c1, c2⟩ := (short_iff (by decide) (Int.le_refl 0)).mp hq
      have := (short_iff (room := 100000000) (r := M.zip W) (by decide) (Int.le_refl 0)).mpr ⟨c1, by omega⟩
      rw [this] at hs; exact absurd hs (by decide)
  · obtain ⟨c1, c2⟩ := (short_iff (by decide) (Int.le_refl 0)).mp hs
    refine ⟨(short_iff hm (Int.le_refl 0)).mpr ⟨c1, Int.le_refl _⟩, ?_⟩
    by_cases h0 : mxn (M.zip W) = 0
    · exact .inl h0
    · right
      cases hq : short (mxn (M.zip W) - 1) 0 (M.zip W) with
      | true => rfl
      | false =>
        obtain ⟨_, c4⟩ := (short_iff (by omega) (Int.le_refl 0)).mp hq
        omega
end k25G

set_option Elab.async false
set_option linter.all false
set_option maxRecDepth 100000
set_option maxHeartbeats 0
namespace k25G
open PySem PySem.Spec PyProof.Rows L2 Sm k25M
theorem ecomp_take {i : Nat} {q : En → Option DV} {u : Int} {f : En → Option (List DV × En)} {ds : List DV} {env e1 : En} {n : Nat} {pot : DV} (hf : f env = some (ds, e1)) (h0 : 0 < i) (hi : i < e1.length) (hb : e1[i]? = some none) (hg : e1.set 0 (some pot) = e1) (hp : PotOk n pot) (hn : n ≤ 100000000) (hl : ds.length ≤ 1000)
    (hq : ∀ d, q ((e1.set i (some d)).set 0 none) = some (.p (.int u))) (h1 : 1 ≤ u) (h2 : u ≤ 1000000000000) :
    ∃ (vs : List Int) (pot' : DV), vs.length = ds.length ∧ Rng 0 (u - 1) vs ∧ PotOk (n + ds.length) pot' ∧ eComp [i] f (gSet i) cYes (eMk dInt (aeCons (eCallM m__law_take 0 (amQ 0 (aCons q (aNil)))) (aeNil))) env = some (.lst (vs.map PV.int), e1.set 0 (some pot')) := by
  have hw : e1.set i none = e1 := by
    obtain ⟨h, e⟩ := List.getElem?_eq_some_iff.mp hb
    rw [← e]; exact List.set_getElem_self h
  obtain ⟨vs, pot', a1, a2, a3, a4⟩ := compE_take e1 h0 hi hw hq h1 h2 ds n pot hp (by omega)
  rw [hg] at a4
  refine ⟨vs, pot', a1, fun v hv => by have := a2 v hv; omega, a3, ?_⟩
  have e2 : wipeE e1 [i] = e1 := hw
  have e3 : En.o e1 i = none := by unfold En.o; rw [hb]
  have e4 : (e1.set 0 (some pot')).set i none = e1.set 0 (some pot') := by rw [List.set_comm _ _ (by omega), hw]
  have e5 : (vs.map fun v => DV.p (.int v)) = (vs.map PV.int).map DV.p := by rw [List.map_map]; rfl
  unfold eComp
  rw [hf]
  simp only [Option.bind_some, le_size (show ds.length ≤ 1000000 by omega), if_true, resE, wipeE, e3, hw]
  rw [a4, Option.map_some, e4, e5, mkC_pure]
theorem nine_q {high : Int} (h1 : 1 ≤ high) (h2 : high ≤ 1000001) (e : En) (he : qVar 2 e = some (.p (.int high))) : qMk dMax2 (aCons (qC (.int 1)) (aCons (qOp dFdiv (qOp dMul (qC (.int 9)) (qVar 2)) (qC (.int 10))) (aNil))) e = some (.p (.int (max 1 (9 * high / 10)))) := by
  have hm : mulOk 9 high = true := mulOk_l (by decide) (by decide)
  have hd := (op_q (g := dFdiv) ((op_q (g := dMul) (a := qC (.int 9)) (b := qVar 2) (env := e) rfl he).trans (dMul_int hm)) (show qC (.int 10) e = _ from rfl)).trans (dFdiv_int (by decide) (by decide +kernel))
  exact (mk_q (a2_q (a := qC (.int 1)) rfl hd)).trans (dMax2_int _ _)
/-- the two rows drawn: in an env of k names -/
theorem room_right_ok {m : Nat} {pot : DV} {most high : Int} (hp : PotOk m pot) (hm : m ≤ 1000000) (hq0 : 0 ≤ most) (hq : most ≤ 100) (h1 : 1 ≤ high) (h2 : high ≤ 1000001) :
    ∃ pot', PotOk (m + 250) pot' ∧ m__law_is_room_right [pot, .p (.int most), .p (.int high)] = some (.p (.bl true), [pot', .p (.int most), .p (.int high)]) := by
  obtain ⟨v, pot0, t1, t2, t3, hP0⟩ := take_e (q := qOp dAdd (qVar 1) (qC (.int 1))) (e := [some pot, some (.p (.int most)), some (.p (.int high)), none, none, none, none]) hp (by omega) (u := most + 1) (by omega) (by omega) (g_zero _ _) rfl
  simp only [List.set_cons_zero] at t1
  obtain ⟨n, rfl⟩ := Int.eq_ofNat_of_zero_le t2
  have r1 : rngOk (n : Int) = true := rngOk_of (by omega) (by omega)
  have hds : (rgD 0 (n : Int)).length = n := by rw [rgD_length]; omega
  obtain ⟨M, pot1, a1, a2, hP1, a4⟩ := ecomp_take (i := 6) (q := qVar 2) (u := high) (ds := rgD 0 (n : Int)) (f := fRng1 (aeCons (eCallM m__law_take 0 (amQ 0 (aCons (qOp dAdd (qVar 1) (qC (.int 1))) (aNil)))) (aeNil))) (env := [some pot, some (.p (.int most)), some (.p (.int high)), none, none, none, none]) (e1 := [some pot0, some (.p (.int most)), some (.p (.int high)), none, none, none, none]) (by
      simp only [fRng1, aeCons, aeNil, t1, Option.bind_some, Option.map_some]
      simp [r1]) (by decide) (by simp) rfl rfl hP0 (by omega) (by omega) (fun d => rfl) h1 (by omega)
  simp only [List.set_cons_zero] at a4
  rw [hds] at a1 hP1
  obtain ⟨W, pot2, b1, b2, hP2, b4⟩ := ecomp_take (i := 6) (q := qMk dMax2 (aCons (qC (.int 1)) (aCons (qOp dFdiv (qOp dMul (qC (.int 9)) (qVar 2)) (qC (.int 10))) (aNil)))) (u := max 1 (9 * high / 10)) (ds := M.map fun v => .p (.int v)) (f := fSeq (qF (qVar 3))) (env := [some pot1, some (.p (.int most)), some (.p (.int high)), some (T M), none, none, none]) (e1 := [some pot1, some (.p (.int most)), some (.p (.int high)), some (T M), none, none, none]) (by
      simp [fSeq, qF, lightE, qVar, DV.lend, g_zero, g_succ, DV.light, DV.itm]) (by decide) (by simp) rfl rfl hP1 (by omega) (by simp; omega) (fun d => nine_q h1 h2 _ rfl) (by omega) (by omega)
  simp only [List.set_cons_zero] at b4
  rw [List.length_map] at b1 hP2
  have hS : Sto M W := ⟨fun x hx => by have := a2 x hx; omega, fun x hx => by have := b2 x hx; omega, by omega, b1⟩
  have hRL := room_law hS
  have nine : qOp dPow (qC (.int 10)) (qC (.int 9)) = qC (.int 1000000000) := funext fun env => ((op_q (g := dPow) (a := qC (.int 10)) (b := qC (.int 9)) (env := env) rfl rfl).trans (dPow_int (by decide) (by decide +kernel))).trans (by simp [qC])
  refine ⟨pot2, hP2.mono (by omega), ?_⟩
  have start : ∀ c : Bk, sSeq (sAsg (eMk dTuple (aeCons (eComp [6] (fRng1 (aeCons (eCallM m__law_take 0 (amQ 0 (aCons (qOp dAdd (qVar 1) (qC (.int 1))) (aNil)))) (aeNil))) (gSet 6) (cYes) (eMk dInt (aeCons (eCallM m__law_take 0 (amQ 0 (aCons (qVar 2) (aNil)))) (aeNil)))) (aeNil))) (gSet 3)) (sSeq (sAsg (eMk dTuple (aeCons (eComp [6] (fSeq (qF (qVar 3))) (gSet 6) (cYes) (eMk dInt (aeCons (eCallM m__law_take 0 (amQ 0 (aCons (qMk dMax2 (aCons (qC (.int 1)) (aCons (qOp dFdiv (qOp dMul (qC (.int 9)) (qVar 2)) (qC (.int 10))) (aNil)))) (aNil)))) (aeNil)))) (aeNil))) (gSet 4)) c) [some pot, some (.p (.int most)), some (.p (.int high)), none, none, none, none] = c [some pot2, some (.p (.int most)), some (.p (.int high)), some (T M), some (T W), none, none] := fun c => by
    refine (seq_nx (e := [some pot1, some (.p (.int most)), some (.p (.int high)), some (T M), none, none, none]) ?_).trans (seq_nx ?_)
    · simp only [sAsg, aeCons, aeNil, eMk] at a4 ⊢
      rw [a4]
      simp [gSet, dTuple_lst]
    · simp only [sAsg, aeCons, aeNil, eMk] at b4 ⊢
      rw [b4]
      simp [gSet, dTuple_lst]
  rcases least_room_ok hS with ⟨hs, _, c⟩ | ⟨hs, _, c⟩
  · obtain ⟨_, d⟩ := law_short_ok M W 1000000000
    rw [hRL.1 hs] at d
    refine run_rt (by simp [modeOk, DV.light]) ?_ (e := [some pot2, some (.p (.int most)), some (.p (.int high)), some (T M), some (T W), some (.p .non), none]) rfl
    unfold b__law_is_room_right
    rw [nine]
    refine (start _).trans ((seq_nx (e := [some pot2, some (.p (.int most)), some (.p (.int high)), some (T M), some (T W), some (.p .non), none]) ?_).trans (seq_rt ?_))
    · simp [runF, modeOk, fin_cons, fin, startE, sSeq, sIf, sNext, sRet, sRetN, sDrop, sAsg, sSetI, sPar, gSets, gSet, gTup', gCons', gNil', DV.comps, tQ, tE, tNot', tAnd', tOr', qVar, qC, qOp, eOp, qUn, eUn, qMk, eMk, qIf, eIf, bQ, qAnd, qOr, qNot, qChain, DV.bool?, aNil, aCons, aeNil, aeCons, ofQ, eMove, g_zero, g_succ, DV.lend, DV.owned, DV.light, dIx_tup, dIx_lst, dIx_ro, dIx_fz, dIx_ml, dIx_mr, dIx_mt, dAdd_int, dSub_int, dNeg_int, dLt_int, dLe_int, dGt_int, dGe_int, dInt_int, dLen_tup, dLen_lst, dLen_ro, dLen_fz, mkT, mkL, pures, sAug, eAppend, isL, dAppend, dSetI, amQ, amE, eCallM, eCall, qCall, oNone, oSome, qSl, dSl_tup, dSl_lst, dSl_ro, dSl_fz, dTuple_lst, dTuple_ro, dTuple_tup, dList_lst, dList_ro, dList_tup, dMin2_int, dMax2_int, dAbs_int, dEq_int, dNe_int, sCnt, sBrk, sNever, atI_0, atI_1, atI_2, sizeLine_eq, Option.bind_some, Option.map_some, Option.bind_none, Option.map_none, List.length_cons, List.length_nil, List.set_cons_zero, List.set_cons_succ, List.getElem?_cons_zero, List.getElem?_cons_succ, List.map_cons, List.map_nil, List.cons_append, List.nil_append, List.replicate, c]
    · simp [runF, modeOk, fin_cons, fin, startE, sSeq, sIf, sNext, sRet, sRetN, sDrop, sAsg, sSetI, sPar, gSets, gSet, gTup', gCons', gNil', DV.comps, tQ, tE, tNot', tAnd', tOr', qVar, qC, qOp, eOp, qUn, eUn, qMk, eMk, qIf, eIf, bQ, qAnd, qOr, qNot, qChain, DV.bool?, aNil, aCons, aeNil, aeCons, ofQ, eMove, g_zero, g_succ, DV.lend, DV.owned, DV.light, dIx_tup, dIx_lst, dIx_ro, dIx_fz, dIx_ml, dIx_mr, dIx_mt, dAdd_int, dSub_int, dNeg_int, dLt_int, dLe_int, dGt_int, dGe_int, dInt_int, dLen_tup, dLen_lst, dLen_ro, dLen_fz, mkT, mkL, pures, sAug, eAppend, isL, dAppend, dSetI, amQ, amE, eCallM, eCall, qCall, oNone, oSome, qSl, dSl_tup, dSl_lst, dSl_ro, dSl_fz, dTuple_lst, dTuple_ro, dTuple_tup, dList_lst, dList_ro, dList_tup, dMin2_int, dMax2_int, dAbs_int, dEq_int, dNe_int, sCnt, sBrk, sNever, atI_0, atI_1, atI_2, sizeLine_eq, Option.bind_some, Option.map_some, Option.bind_none, Option.map_none, List.length_cons, List.length_nil, List.set_cons_zero, List.set_cons_succ, List.getElem?_cons_zero, List.getElem?_cons_succ, List.map_cons, List.map_nil, List.cons_append, List.nil_append, List.replicate, dIs, isN, d]
  · obtain ⟨e1, e2⟩ := hRL.2 hs
    obtain ⟨_, d⟩ := law_short_ok M W (mxn (M.zip W))
    rw [e1] at d
    refine run_rt (by simp [modeOk, DV.light]) ?_ (e := [some pot2, some (.p (.int most)), some (.p (.int high)), some (T M), some (T W), some (.p (.int (mxn (M.zip W)))), none]) rfl
    unfold b__law_is_room_right
    rw [nine]
    refine (start _).trans ((seq_nx (e := [some pot2, some (.p (.int most)), some (.p (.int high)), some (T M), some (T W), some (.p (.int (mxn (M.zip W)))), none]) ?_).trans ((seq_nx (e := [some pot2, some (.p (.int most)), some (.p (.int high)), some (T M), some (T W), some (.p (.int (mxn (M.zip W)))), none]) ?_).trans ?_))
    · simp [runF, modeOk, fin_cons, fin, startE, sSeq, sIf, sNext, sRet, sRetN, sDrop, sAsg, sSetI, sPar, gSets, gSet, gTup', gCons', gNil', DV.comps, tQ, tE, tNot', tAnd', tOr', qVar, qC, qOp, eOp, qUn, eUn, qMk, eMk, qIf, eIf, bQ, qAnd, qOr, qNot, qChain, DV.bool?, aNil, aCons, aeNil, aeCons, ofQ, eMove, g_zero, g_succ, DV.lend, DV.owned, DV.light, dIx_tup, dIx_lst, dIx_ro, dIx_fz, dIx_ml, dIx_mr, dIx_mt, dAdd_int, dSub_int, dNeg_int, dLt_int, dLe_int, dGt_int, dGe_int, dInt_int, dLen_tup, dLen_lst, dLen_ro, dLen_fz, mkT, mkL, pures, sAug, eAppend, isL, dAppend, dSetI, amQ, amE, eCallM, eCall, qCall, oNone, oSome, qSl, dSl_tup, dSl_lst, dSl_ro, dSl_fz, dTuple_lst, dTuple_ro, dTuple_tup, dList_lst, dList_ro, dList_tup, dMin2_int, dMax2_int, dAbs_int, dEq_int, dNe_int, sCnt, sBrk, sNever, atI_0, atI_1, atI_2, sizeLine_eq, Option.bind_some, Option.map_some, Option.bind_none, Option.map_none, List.length_cons, List.length_nil, List.set_cons_zero, List.set_cons_succ, List.getElem?_cons_zero, List.getElem?_cons_succ, List.map_cons, List.map_nil, List.cons_append, List.nil_append, List.replicate, c]
    · simp [runF, modeOk, fin_cons, fin, startE, sSeq, sIf, sNext, sRet, sRetN, sDrop, sAsg, sSetI, sPar, gSets, gSet, gTup', gCons', gNil', DV.comps, tQ, tE, tNot', tAnd', tOr', qVar, qC, qOp, eOp, qUn, eUn, qMk, eMk, qIf, eIf, bQ, qAnd, qOr, qNot, qChain, DV.bool?, aNil, aCons, aeNil, aeCons, ofQ, eMove, g_zero, g_succ, DV.lend, DV.owned, DV.light, dIx_tup, dIx_lst, dIx_ro, dIx_fz, dIx_ml, dIx_mr, dIx_mt, dAdd_int, dSub_int, dNeg_int, dLt_int, dLe_int, dGt_int, dGe_int, dInt_int, dLen_tup, dLen_lst, dLen_ro, dLen_fz, mkT, mkL, pures, sAug, eAppend, isL, dAppend, dSetI, amQ, amE, eCallM, eCall, qCall, oNone, oSome, qSl, dSl_tup, dSl_lst, dSl_ro, dSl_fz, dTuple_lst, dTuple_ro, dTuple_tup, dList_lst, dList_ro, dList_tup, dMin2_int, dMax2_int, dAbs_int, dEq_int, dNe_int, sCnt, sBrk, sNever, atI_0, atI_1, atI_2, sizeLine_eq, Option.bind_some, Option.map_some, Option.bind_none, Option.map_none, List.length_cons, List.length_nil, List.set_cons_zero, List.set_cons_succ, List.getElem?_cons_zero, List.getElem?_cons_succ, List.map_cons, List.map_nil, List.cons_append, List.nil_append, List.replicate, dIs, isN]
    · by_cases h0 : mxn (M.zip W) = 0
      · rw [h0] at d
        simp [runF, modeOk, fin_cons, fin, startE, sSeq, sIf, sNext, sRet, sRetN, sDrop, sAsg, sSetI, sPar, gSets, gSet, gTup', gCons', gNil', DV.comps, tQ, tE, tNot', tAnd', tOr', qVar, qC, qOp, eOp, qUn, eUn, qMk, eMk, qIf, eIf, bQ, qAnd, qOr, qNot, qChain, DV.bool?, aNil, aCons, aeNil, aeCons, ofQ, eMove, g_zero, g_succ, DV.lend, DV.owned, DV.light, dIx_tup, dIx_lst, dIx_ro, dIx_fz, dIx_ml, dIx_mr, dIx_mt, dAdd_int, dSub_int, dNeg_int, dLt_int, dLe_int, dGt_int, dGe_int, dInt_int, dLen_tup, dLen_lst, dLen_ro, dLen_fz, mkT, mkL, pures, sAug, eAppend, isL, dAppend, dSetI, amQ, amE, eCallM, eCall, qCall, oNone, oSome, qSl, dSl_tup, dSl_lst, dSl_ro, dSl_fz, dTuple_lst, dTuple_ro, dTuple_tup, dList_lst, dList_ro, dList_tup, dMin2_int, dMax2_int, dAbs_int, dEq_int, dNe_int, sCnt, sBrk, sNever, atI_0, atI_1, atI_2, sizeLine_eq, Option.bind_some, Option.map_some, Option.bind_none, Option.map_none, List.length_cons, List.length_nil, List.set_cons_zero, List.set_cons_succ, List.getElem?_cons_zero, List.getElem?_cons_succ, List.map_cons, List.map_nil, List.cons_append, List.nil_append, List.replicate, d, h0]
      · obtain ⟨_, d2⟩ := law_short_ok M W (mxn (M.zip W) - 1)
        rw [e2.resolve_left h0] at d2
        simp [runF, modeOk, fin_cons, fin, startE, sSeq, sIf, sNext, sRet, sRetN, sDrop, sAsg, sSetI, sPar, gSets, gSet, gTup', gCons', gNil', DV.comps, tQ, tE, tNot', tAnd', tOr', qVar, qC, qOp, eOp, qUn, eUn, qMk, eMk, qIf, eIf, bQ, qAnd, qOr, qNot, qChain, DV.bool?, aNil, aCons, aeNil, aeCons, ofQ, eMove, g_zero, g_succ, DV.lend, DV.owned, DV.light, dIx_tup, dIx_lst, dIx_ro, dIx_fz, dIx_ml, dIx_mr, dIx_mt, dAdd_int, dSub_int, dNeg_int, dLt_int, dLe_int, dGt_int, dGe_int, dInt_int, dLen_tup, dLen_lst, dLen_ro, dLen_fz, mkT, mkL, pures, sAug, eAppend, isL, dAppend, dSetI, amQ, amE, eCallM, eCall, qCall, oNone, oSome, qSl, dSl_tup, dSl_lst, dSl_ro, dSl_fz, dTuple_lst, dTuple_ro, dTuple_tup, dList_lst, dList_ro, dList_tup, dMin2_int, dMax2_int, dAbs_int, dEq_int, dNe_int, sCnt, sBrk, sNever, atI_0, atI_1, atI_2, sizeLine_eq, Option.bind_some, Option.map_some, Option.bind_none, Option.map_none, List.length_cons, List.length_nil, List.set_cons_zero, List.set_cons_succ, List.getElem?_cons_zero, List.getElem?_cons_succ, List.map_cons, List.map_nil, List.cons_append, List.nil_append, List.replicate, d, d2, h0]
end k25G

set_option Elab.async false
set_option linter.all false
set_option maxRecDepth 100000
set_option maxHeartbeats 0
namespace k25G
open PySem PySem.Spec PyProof.Rows L2 Sm k25M
theorem six_1 : qOp dAdd (qOp dPow (qC (.int 10)) (qC (.int 6))) (qC (.int 1)) = qC (.int 1000001) := by
  rw [six_q]; exact funext fun env => by simp [qOp, qC, dAdd_int]
theorem three_q {high : Int} (h1 : 1 ≤ high) (h2 : high ≤ 1000001) (e : En) (he : qVar 2 e = some (.p (.int high))) : qMk mkL (aCons (qVar 2) (aCons (qOp dMul (qC (.int 3)) (qVar 2)) (aNil))) e = some (.lst [.int high, .int (3 * high)]) := by
  have hm : mulOk 3 high = true := mulOk_l (by decide) (by decide)
  have hd := (op_q (g := dMul) (a := qC (.int 3)) (b := qVar 2) (env := e) rfl he).trans (dMul_int hm)
  refine (mk_q (a2_q he hd)).trans ?_
  simp [mkL, pures, sizeLine_eq]
theorem store_right_ok {m : Nat} {pot : DV} {most high : Int} (hp : PotOk m pot) (hm : m ≤ 1000000) (hq0 : 0 ≤ most) (hq : most ≤ 100) (h1 : 1 ≤ high) (h2 : high ≤ 1000001) :
    ∃ pot', PotOk (m + 250) pot' ∧ m__law_is_store_right [pot, .p (.int most), .p (.int high)] = some (.p (.bl true), [pot', .p (.int most), .p (.int high)]) := by
  obtain ⟨v, pot0, t1, t2, t3, hP0⟩ := take_e (q := qOp dAdd (qVar 1) (qC (.int 1))) (e := [some pot, some (.p (.int most)), some (.p (.int high)), none, none, none, none, none, none, none, none, none, none, none, none, none]) hp (by omega) (u := most + 1) (by omega) (by omega) (g_zero _ _) rfl
  simp only [List.set_cons_zero] at t1
  obtain ⟨n, rfl⟩ := Int.eq_ofNat_of_zero_le t2
  have r1 : rngOk (n : Int) = true := rngOk_of (by omega) (by omega)
  have hds : (rgD 0 (n : Int)).length = n := by rw [rgD_length]; omega
  obtain ⟨M, pot1, a1, a2, hP1, a4⟩ := ecomp_take (i := 15) (q := qVar 2) (u := high) (ds := rgD 0 (n : Int)) (f := fRng1 (aeCons (eCallM m__law_take 0 (amQ 0 (aCons (qOp dAdd (qVar 1) (qC (.int 1))) (aNil)))) (aeNil))) (env := [some pot, some (.p (.int most)), some (.p (.int high)), none, none, none, none, none, none, none, none, none, none, none, none, none]) (e1 := [some pot0, some (.p (.int most)), some (.p (.int high)), none, none, none, none, none, none, none, none, none, none, none, none, none]) (by
      simp only [fRng1, aeCons, aeNil, t1, Option.bind_some, Option.map_some]
      simp [r1]) (by decide) (by simp) rfl rfl hP0 (by omega) (by omega) (fun d => rfl) h1 (by omega)
  simp only [List.set_cons_zero] at a4
  rw [hds] at a1 hP1
  obtain ⟨W, pot2, b1, b2, hP2, b4⟩ := ecomp_take (i := 15) (q := qMk dMax2 (aCons (qC (.int 1)) (aCons (qOp dFdiv (qOp dMul (qC (.int 9)) (qVar 2)) (qC (.int 10))) (aNil)))) (u := max 1 (9 * high / 10)) (ds := M.map fun v => .p (.int v)) (f := fSeq (qF (qVar 3))) (env := [some pot1, some (.p (.int most)), some (.p (.int high)), some (T M), none, none, none, none, none, none, none, none, none, none, none, none]) (e1 := [some pot1, some (.p (.int most)), some (.p (.int high)), some (T M), none, none, none, none, none, none, none, none, none, none, none, none]) (by
      simp [fSeq, qF, lightE, qVar, DV.lend, g_zero, g_succ, DV.light, DV.itm]) (by decide) (by simp) rfl rfl hP1 (by omega) (by simp; omega) (fun d => nine_q h1 h2 _ rfl) (by omega) (by omega)
  simp only [List.set_cons_zero] at b4
  rw [List.length_map] at b1 hP2
  have hS : Sto M W := ⟨fun x hx => by have := a2 x hx; omega, fun x hx => by have := b2 x hx; omega, by omega, b1⟩
  obtain ⟨v, pot3, c1, c2, c3, hP3⟩ := take_of (x := high) (y := 3 * high) (m := 3000003) (e := [some pot2, some (.p (.int most)), some (.p (.int high)), some (T M), some (T W), none, none, none, none, none, none, none, none, none, none, none]) (q := qMk mkL (aCons (qVar 2) (aCons (qOp dMul (qC (.int 3)) (qVar 2)) (aNil)))) hP2 (by omega) h1 (by omega) (by omega) (by omega) (by omega) (by simp) (g_zero _ _) (three_q h1 h2 _ rfl)
  simp only [List.set_cons_zero] at c1
  have hR0 : 0 ≤ v % 1000001 := Int.emod_nonneg _ (by decide)
  have hR1 : v % 1000001 ≤ 1000000 := by have := Int.emod_lt_of_pos v (show (0 : Int) < 1000001 by decide); omega
  refine ⟨pot3, hP3.mono (by omega), ?_⟩
  have start : ∀ c : Bk, sSeq (sAsg (eMk dTuple (aeCons (eComp [15] (fRng1 (aeCons (eCallM m__law_take 0 (amQ 0 (aCons (qOp dAdd (qVar 1) (qC (.int 1))) (aNil)))) (aeNil))) (gSet 15) (cYes) (eMk dInt (aeCons (eCallM m__law_take 0 (amQ 0 (aCons (qVar 2) (aNil)))) (aeNil)))) (aeNil))) (gSet 3)) (sSeq (sAsg (eMk dTuple (aeCons (eComp [15] (fSeq (qF (qVar 3))) (gSet 15) (cYes) (eMk dInt (aeCons (eCallM m__law_take 0 (amQ 0 (aCons (qMk dMax2 (aCons (qC (.int 1)) (aCons (qOp dFdiv (qOp dMul (qC (.int 9)) (qVar 2)) (qC (.int 10))) (aNil)))) (aNil)))) (aeNil)))) (aeNil))) (gSet 4)) (sSeq (sAsg (eOp dMod (eMk dInt (aeCons (eCallM m__law_take 0 (amE (eCallML m__law_of 0 (amQ 0 (aCons (qMk mkL (aCons (qVar 2) (aCons (qOp dMul (qC (.int 3)) (qVar 2)) (aNil)))) (aNil)))) (amQ 0 (aNil)))) (aeNil))) (ofQ (qC (.int 1000001)))) (gSet 5)) c)) [some pot, some (.p (.int most)), some (.p (.int high)), none, none, none, none, none, none, none, none, none, none, none, none, none] = c [some pot3, some (.p (.int most)), some (.p (.int high)), some (T M), some (T W), some (.p (.int (v % 1000001))), none, none, none, none, none, none, none, none, none, none] := fun c => by
    refine (seq_nx (e := [some pot1, some (.p (.int most)), some (.p (.int high)), some (T M), none, none, none, none, none, none, none, none, none, none, none, none]) ?_).trans ((seq_nx (e := [some pot2, some (.p (.int most)), some (.p (.int high)), some (T M), some (T W), none, none, none, none, none, none, none, none, none, none, none]) ?_).trans (seq_nx ?_))
    · simp only [sAsg, aeCons, aeNil, eMk] at a4 ⊢
      rw [a4]
      simp [gSet, dTuple_lst]
    · simp only [sAsg, aeCons, aeNil, eMk] at b4 ⊢
      rw [b4]
      simp [gSet, dTuple_lst]
    · simp only [sAsg, aeCons, aeNil, eMk, eOp, c1, Option.bind_some, Option.map_some, dInt_int, q_of (q := qC (.int 1000001)) (d := .p (.int 1000001)) rfl rfl, dMod_int (show (0 : Int) < 1000001 by decide)]
      simp [gSet]
  generalize v % 1000001 = room at hR0 hR1 start
  obtain ⟨_, ls⟩ := law_short_ok M W room
  rcases store_ok hS hR0 hR1 with ⟨hs, _, st⟩ | ⟨hs, fi, se, _, hF, st⟩
  · rw [hs] at ls
    have hT := plan_okT hS hR0 hs
    have hPl : (plan (M.zip W)).length = M.length := by rw [plan_length, zip_len hS]
    obtain ⟨_, sp⟩ := shows_plan hS hR0 hR1 (plan_rng hS) hPl hT
    generalize plan (M.zip W) = P at st hT sp hPl
    obtain ⟨e', l1, ⟨⟨p10, p11, p12, rfl⟩, _⟩⟩ := forL_fold (t := gTup' 3 (gCons' (gSet 10) (gCons' (gSet 11) (gCons' (gSet 12) (gNil'))))) (b := b__law_is_store_right_1) (fun p : Int × Int × Int => DV.p (.tup [.int p.1, .int p.2.1, .int p.2.2]))
      (fun s e => ∃ o10 o11 o12, e = [some pot3, some (.p (.int most)), some (.p (.int high)), some (T M), some (T W), some (.p (.int room)), some (.p (.int s)), some (.p (.tup [.str "plan", .tup (P.map PV.int)])), some (.p (.bl false)), none, o10, o11, o12, none, none, none]) (fun (s : Int) x => s + x.2.2 - x.2.1) (fun s r => okT room s r) (M.zip (W.zip P)) 0 [some pot3, some (.p (.int most)), some (.p (.int high)), some (T M), some (T W), some (.p (.int room)), some (.p (.int 0)), some (.p (.tup [.str "plan", .tup (P.map PV.int)])), some (.p (.bl false)), none, none, none, none, none, none, none] ⟨none, none, none, rfl⟩ hT (by
        rintro s ⟨m, w, p⟩ r e ⟨g1, g2, g3, g4, g5⟩ ⟨o10, o11, o12, rfl⟩
        have g3' : w ≤ s + p := by omega
        have g4' : s + p ≤ room + w := by omega
        refine ⟨_, [some pot3, some (.p (.int most)), some (.p (.int high)), some (T M), some (T W), some (.p (.int room)), some (.p (.int (s + p - w))), some (.p (.tup [.str "plan", .tup (P.map PV.int)])), some (.p (.bl false)), none, some (.p (.int m)), some (.p (.int w)), some (.p (.int p)), none, none, none], by simp [runF, modeOk, fin_cons, fin, startE, sSeq, sIf, sNext, sRet, sRetN, sDrop, sAsg, sSetI, sPar, gSets, gSet, gTup', gCons', gNil', DV.comps, tQ, tE, tNot', tAnd', tOr', qVar, qC, qOp, eOp, qUn, eUn, qMk, eMk, qIf, eIf, bQ, qAnd, qOr, qNot, qChain, DV.bool?, aNil, aCons, aeNil, aeCons, ofQ, eMove, g_zero, g_succ, DV.lend, DV.owned, DV.light, dIx_tup, dIx_lst, dIx_ro, dIx_fz, dIx_ml, dIx_mr, dIx_mt, dAdd_int, dSub_int, dNeg_int, dLt_int, dLe_int, dGt_int, dGe_int, dInt_int, dLen_tup, dLen_lst, dLen_ro, dLen_fz, mkT, mkL, pures, sAug, eAppend, isL, dAppend, dSetI, amQ, amE, eCallM, eCall, qCall, oNone, oSome, qSl, dSl_tup, dSl_lst, dSl_ro, dSl_fz, dTuple_lst, dTuple_ro, dTuple_tup, dList_lst, dList_ro, dList_tup, dMin2_int, dMax2_int, dAbs_int, dEq_int, dNe_int, sCnt, sBrk, sNever, atI_0, atI_1, atI_2, sizeLine_eq, Option.bind_some, Option.map_some, Option.bind_none, Option.map_none, List.length_cons, List.length_nil, List.set_cons_zero, List.set_cons_succ, List.getElem?_cons_zero, List.getElem?_cons_succ, List.map_cons, List.map_nil, List.cons_append, List.nil_append, List.replicate]; rfl, .inl ?_, ⟨_, _, _, rfl⟩, g5⟩
        simp [b__law_is_store_right_1, runF, modeOk, fin_cons, fin, startE, sSeq, sIf, sNext, sRet, sRetN, sDrop, sAsg, sSetI, sPar, gSets, gSet, gTup', gCons', gNil', DV.comps, tQ, tE, tNot', tAnd', tOr', qVar, qC, qOp, eOp, qUn, eUn, qMk, eMk, qIf, eIf, bQ, qAnd, qOr, qNot, qChain, DV.bool?, aNil, aCons, aeNil, aeCons, ofQ, eMove, g_zero, g_succ, DV.lend, DV.owned, DV.light, dIx_tup, dIx_lst, dIx_ro, dIx_fz, dIx_ml, dIx_mr, dIx_mt, dAdd_int, dSub_int, dNeg_int, dLt_int, dLe_int, dGt_int, dGe_int, dInt_int, dLen_tup, dLen_lst, dLen_ro, dLen_fz, mkT, mkL, pures, sAug, eAppend, isL, dAppend, dSetI, amQ, amE, eCallM, eCall, qCall, oNone, oSome, qSl, dSl_tup, dSl_lst, dSl_ro, dSl_fz, dTuple_lst, dTuple_ro, dTuple_tup, dList_lst, dList_ro, dList_tup, dMin2_int, dMax2_int, dAbs_int, dEq_int, dNe_int, sCnt, sBrk, sNever, atI_0, atI_1, atI_2, sizeLine_eq, Option.bind_some, Option.map_some, Option.bind_none, Option.map_none, List.length_cons, List.length_nil, List.set_cons_zero, List.set_cons_succ, List.getElem?_cons_zero, List.getElem?_cons_succ, List.map_cons, List.map_nil, List.cons_append, List.nil_append, List.replicate, g1, g2, g3, g4, g3', g4'])
    generalize (M.zip (W.zip P)).foldl (fun (s : Int) x => s + x.2.2 - x.2.1) 0 = kept at l1
    refine run_rt (by simp [modeOk, DV.light]) ?_ (e := [some pot3, some (.p (.int most)), some (.p (.int high)), some (T M), some (T W), some (.p (.int room)), some (.p (.int kept)), some (.p (.tup [.str "plan", .tup (P.map PV.int)])), some (.p (.bl false)), none, p10, p11, p12, none, none, none]) rfl
    unfold b__law_is_store_right
    rw [six_1]
    refine (start _).trans ((seq_nx (e := [some pot3, some (.p (.int most)), some (.p (.int high)), some (T M), some (T W), some (.p (.int room)), none, some (.p (.tup [.str "plan", .tup (P.map PV.int)])), some (.p (.bl false)), none, none, none, none, none, none, none]) ?_).trans ((seq_nx (e := [some pot3, some (.p (.int most)), some (.p (.int high)), some (T M), some (T W), some (.p (.int room)), none, some (.p (.tup [.str "plan", .tup (P.map PV.int)])), some (.p (.bl false)), none, none, none, none, none, none, none]) ?_).trans ((seq_nx (e := [some pot3, some (.p (.int most)), some (.p (.int high)), some (T M), some (T W), some (.p (.int room)), none, some (.p (.tup [.str "plan", .tup (P.map PV.int)])), some (.p (.bl false)), none, none, none, none, none, none, none]) ?_).trans ((seq_nx (e := [some pot3, some (.p (.int most)), some (.p (.int high)), some (T M), some (T W), some (.p (.int room)), some (.p (.int 0)), some (.p (.tup [.str "plan", .tup (P.map PV.int)])), some (.p (.bl false)), none, none, none, none, none, none, none]) ?_).trans ((for_nx l1 ?_).trans ?_)))))
    · simp [runF, modeOk, fin_cons, fin, startE, sSeq, sIf, sNext, sRet, sRetN, sDrop, sAsg, sSetI, sPar, gSets, gSet, gTup', gCons', gNil', DV.comps, tQ, tE, tNot', tAnd', tOr', qVar, qC, qOp, eOp, qUn, eUn, qMk, eMk, qIf, eIf, bQ, qAnd, qOr, qNot, qChain, DV.bool?, aNil, aCons, aeNil, aeCons, ofQ, eMove, g_zero, g_succ, DV.lend, DV.owned, DV.light, dIx_tup, dIx_lst, dIx_ro, dIx_fz, dIx_ml, dIx_mr, dIx_mt, dAdd_int, dSub_int, dNeg_int, dLt_int, dLe_int, dGt_int, dGe_int, dInt_int, dLen_tup, dLen_lst, dLen_ro, dLen_fz, mkT, mkL, pures, sAug, eAppend, isL, dAppend, dSetI, amQ, amE, eCallM, eCall, qCall, oNone, oSome, qSl, dSl_tup, dSl_lst, dSl_ro, dSl_fz, dTuple_lst, dTuple_ro, dTuple_tup, dList_lst, dList_ro, dList_tup, dMin2_int, dMax2_int, dAbs_int, dEq_int, dNe_int, sCnt, sBrk, sNever, atI_0, atI_1, atI_2, sizeLine_eq, Option.bind_some, Option.map_some, Option.bind_none, Option.map_none, List.length_cons, List.length_nil, List.set_cons_zero, List.set_cons_succ, List.getElem?_cons_zero, List.getElem?_cons_succ, List.map_cons, List.map_nil, List.cons_append, List.nil_append, List.replicate, st, ls]
    · simp [runF, modeOk, fin_cons, fin, startE, sSeq, sIf, sNext, sRet, sRetN, sDrop, sAsg, sSetI, sPar, gSets, gSet, gTup', gCons', gNil', DV.comps, tQ, tE, tNot', tAnd', tOr', qVar, qC, qOp, eOp, qUn, eUn, qMk, eMk, qIf, eIf, bQ, qAnd, qOr, qNot, qChain, DV.bool?, aNil, aCons, aeNil, aeCons, ofQ, eMove, g_zero, g_succ, DV.lend, DV.owned, DV.light, dIx_tup, dIx_lst, dIx_ro, dIx_fz, dIx_ml, dIx_mr, dIx_mt, dAdd_int, dSub_int, dNeg_int, dLt_int, dLe_int, dGt_int, dGe_int, dInt_int, dLen_tup, dLen_lst, dLen_ro, dLen_fz, mkT, mkL, pures, sAug, eAppend, isL, dAppend, dSetI, amQ, amE, eCallM, eCall, qCall, oNone, oSome, qSl, dSl_tup, dSl_lst, dSl_ro, dSl_fz, dTuple_lst, dTuple_ro, dTuple_tup, dList_lst, dList_ro, dList_tup, dMin2_int, dMax2_int, dAbs_int, dEq_int, dNe_int, sCnt, sBrk, sNever, atI_0, atI_1, atI_2, sizeLine_eq, Option.bind_some, Option.map_some, Option.bind_none, Option.map_none, List.length_cons, List.length_nil, List.set_cons_zero, List.set_cons_succ, List.getElem?_cons_zero, List.getElem?_cons_succ, List.map_cons, List.map_nil, List.cons_append, List.nil_append, List.replicate, ePC, dNe_self (good_bl _), sp, dIsnot, dIs]
    · simp [runF, modeOk, fin_cons, fin, startE, sSeq, sIf, sNext, sRet, sRetN, sDrop, sAsg, sSetI, sPar, gSets, gSet, gTup', gCons', gNil', DV.comps, tQ, tE, tNot', tAnd', tOr', qVar, qC, qOp, eOp, qUn, eUn, qMk, eMk, qIf, eIf, bQ, qAnd, qOr, qNot, qChain, DV.bool?, aNil, aCons, aeNil, aeCons, ofQ, eMove, g_zero, g_succ, DV.lend, DV.owned, DV.light, dIx_tup, dIx_lst, dIx_ro, dIx_fz, dIx_ml, dIx_mr, dIx_mt, dAdd_int, dSub_int, dNeg_int, dLt_int, dLe_int, dGt_int, dGe_int, dInt_int, dLen_tup, dLen_lst, dLen_ro, dLen_fz, mkT, mkL, pures, sAug, eAppend, isL, dAppend, dSetI, amQ, amE, eCallM, eCall, qCall, oNone, oSome, qSl, dSl_tup, dSl_lst, dSl_ro, dSl_fz, dTuple_lst, dTuple_ro, dTuple_tup, dList_lst, dList_ro, dList_tup, dMin2_int, dMax2_int, dAbs_int, dEq_int, dNe_int, sCnt, sBrk, sNever, atI_0, atI_1, atI_2, sizeLine_eq, Option.bind_some, Option.map_some, Option.bind_none, Option.map_none, List.length_cons, List.length_nil, List.set_cons_zero, List.set_cons_succ, List.getElem?_cons_zero, List.getElem?_cons_succ, List.map_cons, List.map_nil, List.cons_append, List.nil_append, List.replicate]
    · simp [runF, modeOk, fin_cons, fin, startE, sSeq, sIf, sNext, sRet, sRetN, sDrop, sAsg, sSetI, sPar, gSets, gSet, gTup', gCons', gNil', DV.comps, tQ, tE, tNot', tAnd', tOr', qVar, qC, qOp, eOp, qUn, eUn, qMk, eMk, qIf, eIf, bQ, qAnd, qOr, qNot, qChain, DV.bool?, aNil, aCons, aeNil, aeCons, ofQ, eMove, g_zero, g_succ, DV.lend, DV.owned, DV.light, dIx_tup, dIx_lst, dIx_ro, dIx_fz, dIx_ml, dIx_mr, dIx_mt, dAdd_int, dSub_int, dNeg_int, dLt_int, dLe_int, dGt_int, dGe_int, dInt_int, dLen_tup, dLen_lst, dLen_ro, dLen_fz, mkT, mkL, pures, sAug, eAppend, isL, dAppend, dSetI, amQ, amE, eCallM, eCall, qCall, oNone, oSome, qSl, dSl_tup, dSl_lst, dSl_ro, dSl_fz, dTuple_lst, dTuple_ro, dTuple_tup, dList_lst, dList_ro, dList_tup, dMin2_int, dMax2_int, dAbs_int, dEq_int, dNe_int, sCnt, sBrk, sNever, atI_0, atI_1, atI_2, sizeLine_eq, Option.bind_some, Option.map_some, Option.bind_none, Option.map_none, List.length_cons, List.length_nil, List.set_cons_zero, List.set_cons_succ, List.getElem?_cons_zero, List.getElem?_cons_succ, List.map_cons, List.map_nil, List.cons_append, List.nil_append, List.replicate]
    · have hI : qO (qOp dIx (qVar 7) (qC (.int 1))) [some pot3, some (.p (.int most)), some (.p (.int high)), some (T M), some (T W), some (.p (.int room)), some (.p (.int 0)), some (.p (.tup [.str "plan", .tup (P.map PV.int)])), some (.p (.bl false)), none, none, none, none, none, none, none] = some (T P) := by
        simp [qO, runF, modeOk, fin_cons, fin, startE, sSeq, sIf, sNext, sRet, sRetN, sDrop, sAsg, sSetI, sPar, gSets, gSet, gTup', gCons', gNil', DV.comps, tQ, tE, tNot', tAnd', tOr', qVar, qC, qOp, eOp, qUn, eUn, qMk, eMk, qIf, eIf, bQ, qAnd, qOr, qNot, qChain, DV.bool?, aNil, aCons, aeNil, aeCons, ofQ, eMove, g_zero, g_succ, DV.lend, DV.owned, DV.light, dIx_tup, dIx_lst, dIx_ro, dIx_fz, dIx_ml, dIx_mr, dIx_mt, dAdd_int, dSub_int, dNeg_int, dLt_int, dLe_int, dGt_int, dGe_int, dInt_int, dLen_tup, dLen_lst, dLen_ro, dLen_fz, mkT, mkL, pures, sAug, eAppend, isL, dAppend, dSetI, amQ, amE, eCallM, eCall, qCall, oNone, oSome, qSl, dSl_tup, dSl_lst, dSl_ro, dSl_fz, dTuple_lst, dTuple_ro, dTuple_tup, dList_lst, dList_ro, dList_tup, dMin2_int, dMax2_int, dAbs_int, dEq_int, dNe_int, sCnt, sBrk, sNever, atI_0, atI_1, atI_2, sizeLine_eq, Option.bind_some, Option.map_some, Option.bind_none, Option.map_none, List.length_cons, List.length_nil, List.set_cons_zero, List.set_cons_succ, List.getElem?_cons_zero, List.getElem?_cons_succ, List.map_cons, List.map_nil, List.cons_append, List.nil_append, List.replicate]
      simp only [fW, aCons, aNil, hI, Option.bind_some, Option.map_some]
      simp [qF, lightE, qVar, DV.lend, g_zero, g_succ, z3D_tup, zip3_ints, DV.light]
    · exact ret_q rfl rfl
  · rw [hs] at ls
    obtain ⟨_, sc⟩ := shows_crowd hS hR0 hR1 hF
    have d1 := cut_seg M (b := fi) (e := se + 1) (by have := hF.1; omega) (by have := hF.2.1; omega)
    have d2 := cut_seg W (b := fi) (e := se + 1) (by have := hF.1; omega) (by have := hF.2.1; have := hS.eq; omega)
    have e1 : ((se + 1 : Nat) : Int) = (se : Int) + 1 := by omega
    rw [e1] at d1 d2
    have hlt := hF.2.2
    have hlt' : (if 0 < fi then room else 0) < (seg W fi (se + 1)).sum - (seg M fi (se + 1)).sum := by omega
    refine run_rt (by simp [modeOk, DV.light]) ?_ (e := [some pot3, some (.p (.int most)), some (.p (.int high)), some (T M), some (T W), some (.p (.int room)), none, some (.p (.tup [.str "crowd", .int (fi : Nat), .int (se : Nat)])), some (.p (.bl true)), some (.p (.int ((seg W fi (se + 1)).sum - (seg M fi (se + 1)).sum))), none, none, none, some (.p (.int fi)), some (.p (.int se)), none]) rfl
    unfold b__law_is_store_right
    rw [six_1]
    refine (start _).trans ((seq_nx (e := [some pot3, some (.p (.int most)), some (.p (.int high)), some (T M), some (T W), some (.p (.int room)), none, some (.p (.tup [.str "crowd", .int (fi : Nat), .int (se : Nat)])), some (.p (.bl true)), none, none, none, none, none, none, none]) ?_).trans ((seq_nx (e := [some pot3, some (.p (.int most)), some (.p (.int high)), some (T M), some (T W), some (.p (.int room)), none, some (.p (.tup [.str "crowd", .int (fi : Nat), .int (se : Nat)])), some (.p (.bl true)), none, none, none, none, none, none, none]) ?_).trans (seq_rt ?_)))
    · simp [runF, modeOk, fin_cons, fin, startE, sSeq, sIf, sNext, sRet, sRetN, sDrop, sAsg, sSetI, sPar, gSets, gSet, gTup', gCons', gNil', DV.comps, tQ, tE, tNot', tAnd', tOr', qVar, qC, qOp, eOp, qUn, eUn, qMk, eMk, qIf, eIf, bQ, qAnd, qOr, qNot, qChain, DV.bool?, aNil, aCons, aeNil, aeCons, ofQ, eMove, g_zero, g_succ, DV.lend, DV.owned, DV.light, dIx_tup, dIx_lst, dIx_ro, dIx_fz, dIx_ml, dIx_mr, dIx_mt, dAdd_int, dSub_int, dNeg_int, dLt_int, dLe_int, dGt_int, dGe_int, dInt_int, dLen_tup, dLen_lst, dLen_ro, dLen_fz, mkT, mkL, pures, sAug, eAppend, isL, dAppend, dSetI, amQ, amE, eCallM, eCall, qCall, oNone, oSome, qSl, dSl_tup, dSl_lst, dSl_ro, dSl_fz, dTuple_lst, dTuple_ro, dTuple_tup, dList_lst, dList_ro, dList_tup, dMin2_int, dMax2_int, dAbs_int, dEq_int, dNe_int, sCnt, sBrk, sNever, atI_0, atI_1, atI_2, sizeLine_eq, Option.bind_some, Option.map_some, Option.bind_none, Option.map_none, List.length_cons, List.length_nil, List.set_cons_zero, List.set_cons_succ, List.getElem?_cons_zero, List.getElem?_cons_succ, List.map_cons, List.map_nil, List.cons_append, List.nil_append, List.replicate, st, ls]
    · simp [runF, modeOk, fin_cons, fin, startE, sSeq, sIf, sNext, sRet, sRetN, sDrop, sAsg, sSetI, sPar, gSets, gSet, gTup', gCons', gNil', DV.comps, tQ, tE, tNot', tAnd', tOr', qVar, qC, qOp, eOp, qUn, eUn, qMk, eMk, qIf, eIf, bQ, qAnd, qOr, qNot, qChain, DV.bool?, aNil, aCons, aeNil, aeCons, ofQ, eMove, g_zero, g_succ, DV.lend, DV.owned, DV.light, dIx_tup, dIx_lst, dIx_ro, dIx_fz, dIx_ml, dIx_mr, dIx_mt, dAdd_int, dSub_int, dNeg_int, dLt_int, dLe_int, dGt_int, dGe_int, dInt_int, dLen_tup, dLen_lst, dLen_ro, dLen_fz, mkT, mkL, pures, sAug, eAppend, isL, dAppend, dSetI, amQ, amE, eCallM, eCall, qCall, oNone, oSome, qSl, dSl_tup, dSl_lst, dSl_ro, dSl_fz, dTuple_lst, dTuple_ro, dTuple_tup, dList_lst, dList_ro, dList_tup, dMin2_int, dMax2_int, dAbs_int, dEq_int, dNe_int, sCnt, sBrk, sNever, atI_0, atI_1, atI_2, sizeLine_eq, Option.bind_some, Option.map_some, Option.bind_none, Option.map_none, List.length_cons, List.length_nil, List.set_cons_zero, List.set_cons_succ, List.getElem?_cons_zero, List.getElem?_cons_succ, List.map_cons, List.map_nil, List.cons_append, List.nil_append, List.replicate, eCC, dNe_self (good_bl _), sc, dIsnot, dIs]
    · by_cases hf : 0 < fi
      · rw [if_pos hf] at hlt'
        simp [runF, modeOk, fin_cons, fin, startE, sSeq, sIf, sNext, sRet, sRetN, sDrop, sAsg, sSetI, sPar, gSets, gSet, gTup', gCons', gNil', DV.comps, tQ, tE, tNot', tAnd', tOr', qVar, qC, qOp, eOp, qUn, eUn, qMk, eMk, qIf, eIf, bQ, qAnd, qOr, qNot, qChain, DV.bool?, aNil, aCons, aeNil, aeCons, ofQ, eMove, g_zero, g_succ, DV.lend, DV.owned, DV.light, dIx_tup, dIx_lst, dIx_ro, dIx_fz, dIx_ml, dIx_mr, dIx_mt, dAdd_int, dSub_int, dNeg_int, dLt_int, dLe_int, dGt_int, dGe_int, dInt_int, dLen_tup, dLen_lst, dLen_ro, dLen_fz, mkT, mkL, pures, sAug, eAppend, isL, dAppend, dSetI, amQ, amE, eCallM, eCall, qCall, oNone, oSome, qSl, dSl_tup, dSl_lst, dSl_ro, dSl_fz, dTuple_lst, dTuple_ro, dTuple_tup, dList_lst, dList_ro, dList_tup, dMin2_int, dMax2_int, dAbs_int, dEq_int, dNe_int, sCnt, sBrk, sNever, atI_0, atI_1, atI_2, sizeLine_eq, Option.bind_some, Option.map_some, Option.bind_none, Option.map_none, List.length_cons, List.length_nil, List.set_cons_zero, List.set_cons_succ, List.getElem?_cons_zero, List.getElem?_cons_succ, List.map_cons, List.map_nil, List.cons_append, List.nil_append, List.replicate, cutL_lo1, d1, d2, dSumA_tup, hf, hlt']
      · rw [if_neg hf] at hlt'
        simp [runF, modeOk, fin_cons, fin, startE, sSeq, sIf, sNext, sRet, sRetN, sDrop, sAsg, sSetI, sPar, gSets, gSet, gTup', gCons', gNil', DV.comps, tQ, tE, tNot', tAnd', tOr', qVar, qC, qOp, eOp, qUn, eUn, qMk, eMk, qIf, eIf, bQ, qAnd, qOr, qNot, qChain, DV.bool?, aNil, aCons, aeNil, aeCons, ofQ, eMove, g_zero, g_succ, DV.lend, DV.owned, DV.light, dIx_tup, dIx_lst, dIx_ro, dIx_fz, dIx_ml, dIx_mr, dIx_mt, dAdd_int, dSub_int, dNeg_int, dLt_int, dLe_int, dGt_int, dGe_int, dInt_int, dLen_tup, dLen_lst, dLen_ro, dLen_fz, mkT, mkL, pures, sAug, eAppend, isL, dAppend, dSetI, amQ, amE, eCallM, eCall, qCall, oNone, oSome, qSl, dSl_tup, dSl_lst, dSl_ro, dSl_fz, dTuple_lst, dTuple_ro, dTuple_tup, dList_lst, dList_ro, dList_tup, dMin2_int, dMax2_int, dAbs_int, dEq_int, dNe_int, sCnt, sBrk, sNever, atI_0, atI_1, atI_2, sizeLine_eq, Option.bind_some, Option.map_some, Option.bind_none, Option.map_none, List.length_cons, List.length_nil, List.set_cons_zero, List.set_cons_succ, List.getElem?_cons_zero, List.getElem?_cons_succ, List.map_cons, List.map_nil, List.cons_append, List.nil_append, List.replicate, cutL_lo1, d1, d2, dSumA_tup, hf, hlt']
        omega
end k25G

set_option Elab.async false
set_option linter.all false
set_option maxRecDepth 100000
set_option maxHeartbeats 0
namespace k25G
open PySem PySem.Spec PyProof.Rows L2 Sm k25M
theorem call_m {m : Mir} {e : En} {pot pot' d x y : DV} {r : List DV} {q : En → Option (List DV)} (hp : e.g 0 = some pot) (ho : pot.owned = true) (hq : q (e.set 0 none) = some [x, y]) (h : m [pot, x, y] = some (d, pot' :: r)) (ho' : pot'.owned = true) : eCallM m 0 (amQ 0 q) e = some (d, e.set 0 (some pot')) := by
  simp [eCallM, amQ, hp, ho, hq, h, ho']
def tri (d : DV) (a b : Option DV) : En := [some d, a, b]
theorem plans_turn {m : Nat} {pot : DV} {most high : Int} (hp : PotOk m pot) (hm : m ≤ 1000000) (hq0 : 0 ≤ most) (hq : most ≤ 60) (h1 : 1 ≤ high) (h2 : high ≤ 10001) : ∃ pot', PotOk (m + 140) pot' ∧ b__law_right_2 [some pot, some (.p (.int most)), some (.p (.int high))] = some (.nx [some pot', some (.p (.int most)), some (.p (.int high))]) := by
  obtain ⟨pot', a, b⟩ := plan_right_ok hp hm hq0 hq h1 h2
  have c := call_m (e := [some pot, some (.p (.int most)), some (.p (.int high))]) (q := aCons (qVar 1) (aCons (qVar 2) (aNil))) (g_zero _ _) hp.own rfl b a.own
  simp only [List.set_cons_zero] at c
  exact ⟨pot', a, by simp [b__law_right_2, runF, modeOk, fin_cons, fin, startE, sSeq, sIf, sNext, sRet, sRetN, sDrop, sAsg, sSetI, sPar, gSets, gSet, gTup', gCons', gNil', DV.comps, tQ, tE, tNot', tAnd', tOr', qVar, qC, qOp, eOp, qUn, eUn, qMk, eMk, qIf, eIf, bQ, qAnd, qOr, qNot, qChain, DV.bool?, aNil, aCons, aeNil, aeCons, ofQ, eMove, g_zero, g_succ, DV.lend, DV.owned, DV.light, dIx_tup, dIx_lst, dIx_ro, dIx_fz, dIx_ml, dIx_mr, dIx_mt, dAdd_int, dSub_int, dNeg_int, dLt_int, dLe_int, dGt_int, dGe_int, dInt_int, dLen_tup, dLen_lst, dLen_ro, dLen_fz, mkT, mkL, pures, sAug, eAppend, isL, dAppend, dSetI, amQ, amE, eCallM, eCall, qCall, oNone, oSome, qSl, dSl_tup, dSl_lst, dSl_ro, dSl_fz, dTuple_lst, dTuple_ro, dTuple_tup, dList_lst, dList_ro, dList_tup, dMin2_int, dMax2_int, dAbs_int, dEq_int, dNe_int, sCnt, sBrk, sNever, atI_0, atI_1, atI_2, sizeLine_eq, Option.bind_some, Option.map_some, Option.bind_none, Option.map_none, List.length_cons, List.length_nil, List.set_cons_zero, List.set_cons_succ, List.getElem?_cons_zero, List.getElem?_cons_succ, List.map_cons, List.map_nil, List.cons_append, List.nil_append, List.replicate, c, -eCallM]⟩
theorem stores_turn {m : Nat} {pot : DV} {most high : Int} (hp : PotOk m pot) (hm : m ≤ 900000) (hq0 : 0 ≤ most) (hq : most ≤ 100) (h1 : 1 ≤ high) (h2 : high ≤ 1000001) : ∃ pot', PotOk (m + 500) pot' ∧ b__law_right_1 [some pot, some (.p (.int most)), some (.p (.int high))] = some (.nx [some pot', some (.p (.int most)), some (.p (.int high))]) := by
  obtain ⟨pot1, a, b⟩ := store_right_ok hp (by omega) hq0 hq h1 h2
  obtain ⟨pot2, a2, b2⟩ := room_right_ok a (by omega) hq0 hq h1 h2
  have c := call_m (e := [some pot, some (.p (.int most)), some (.p (.int high))]) (q := aCons (qVar 1) (aCons (qVar 2) (aNil))) (g_zero _ _) hp.own rfl b a.own
  have c2 := call_m (e := [some pot1, some (.p (.int most)), some (.p (.int high))]) (q := aCons (qVar 1) (aCons (qVar 2) (aNil))) (g_zero _ _) a.own rfl b2 a2.own
  simp only [List.set_cons_zero] at c c2
  refine ⟨pot2, a2.mono (by omega), ?_⟩
  simp only [b__law_right_1, sIf, tOr', tNot', tE, c, c2, Option.map_some, Bool.not_true]
  rfl
theorem right_ok (d : DV) (hp : PotOk 0 d) : ∃ r, m__law_right [d] = some (.p (.bl true), r) := by
  obtain ⟨p1, a1, b1⟩ := plans_turn (most := 8) (high := 9) hp (by decide) (by decide) (by decide) (by decide) (by decide)
  obtain ⟨p2, a2, b2⟩ := plans_turn (most := 30) (high := 300) a1 (by decide) (by decide) (by decide) (by decide) (by decide)
  obtain ⟨p3, a3, b3⟩ := plans_turn (most := 60) (high := 10001) a2 (by decide) (by decide) (by decide) (by decide) (by decide)
  obtain ⟨p4, a4, b4⟩ := stores_turn (most := 10) (high := 9) a3 (by decide) (by decide) (by decide) (by decide) (by decide)
  obtain ⟨p5, a5, b5⟩ := stores_turn (most := 40) (high := 900) a4 (by decide) (by decide) (by decide) (by decide) (by decide)
  obtain ⟨p6, a6, b6⟩ := stores_turn (most := 100) (high := 1000001) a5 (by decide) (by decide) (by decide) (by decide) (by decide)
  refine ⟨[p6], run_rt (by simp [modeOk]) ?_ (e := [some p6, some (.p (.int 100)), some (.p (.int 1000001))]) rfl⟩
  unfold b__law_right
  rw [six_1]
  refine (seq_nx ((for_e (ds := [.p (.tup [.int 8, .int 9]), .p (.tup [.int 30, .int 300]), .p (.tup [.int 60, .int 10001])]) (e := [some d, none, none]) ?_).trans (b := forL _ _ _ _) (c := some (.nx [some p3, some (.p (.int 60)), some (.p (.int 10001))])) ?_)).trans ((seq_nx ((for_e (ds := [.p (.tup [.int 10, .int 9]), .p (.tup [.int 40, .int 900]), .p (.tup [.int 100, .int 1000001])]) (e := [some p3, some (.p (.int 60)), some (.p (.int 10001))]) ?_).trans (b := forL _ _ _ _) (c := some (.nx [some p6, some (.p (.int 100)), some (.p (.int 1000001))])) ?_)).trans (ret_q rfl rfl))
  · simp [runF, modeOk, fin_cons, fin, startE, sSeq, sIf, sNext, sRet, sRetN, sDrop, sAsg, sSetI, sPar, gSets, gSet, gTup', gCons', gNil', DV.comps, tQ, tE, tNot', tAnd', tOr', qVar, qC, qOp, eOp, qUn, eUn, qMk, eMk, qIf, eIf, bQ, qAnd, qOr, qNot, qChain, DV.bool?, aNil, aCons, aeNil, aeCons, ofQ, eMove, g_zero, g_succ, DV.lend, DV.owned, DV.light, dIx_tup, dIx_lst, dIx_ro, dIx_fz, dIx_ml, dIx_mr, dIx_mt, dAdd_int, dSub_int, dNeg_int, dLt_int, dLe_int, dGt_int, dGe_int, dInt_int, dLen_tup, dLen_lst, dLen_ro, dLen_fz, mkT, mkL, pures, sAug, eAppend, isL, dAppend, dSetI, amQ, amE, eCallM, eCall, qCall, oNone, oSome, qSl, dSl_tup, dSl_lst, dSl_ro, dSl_fz, dTuple_lst, dTuple_ro, dTuple_tup, dList_lst, dList_ro, dList_tup, dMin2_int, dMax2_int, dAbs_int, dEq_int, dNe_int, sCnt, sBrk, sNever, atI_0, atI_1, atI_2, sizeLine_eq, Option.bind_some, Option.map_some, Option.bind_none, Option.map_none, List.length_cons, List.length_nil, List.set_cons_zero, List.set_cons_succ, List.getElem?_cons_zero, List.getElem?_cons_succ, List.map_cons, List.map_nil, List.cons_append, List.nil_append, List.replicate, fSeq, qO, DV.itm]
  · simp [forL, runF, modeOk, fin_cons, fin, startE, sSeq, sIf, sNext, sRet, sRetN, sDrop, sAsg, sSetI, sPar, gSets, gSet, gTup', gCons', gNil', DV.comps, tQ, tE, tNot', tAnd', tOr', qVar, qC, qOp, eOp, qUn, eUn, qMk, eMk, qIf, eIf, bQ, qAnd, qOr, qNot, qChain, DV.bool?, aNil, aCons, aeNil, aeCons, ofQ, eMove, g_zero, g_succ, DV.lend, DV.owned, DV.light, dIx_tup, dIx_lst, dIx_ro, dIx_fz, dIx_ml, dIx_mr, dIx_mt, dAdd_int, dSub_int, dNeg_int, dLt_int, dLe_int, dGt_int, dGe_int, dInt_int, dLen_tup, dLen_lst, dLen_ro, dLen_fz, mkT, mkL, pures, sAug, eAppend, isL, dAppend, dSetI, amQ, amE, eCallM, eCall, qCall, oNone, oSome, qSl, dSl_tup, dSl_lst, dSl_ro, dSl_fz, dTuple_lst, dTuple_ro, dTuple_tup, dList_lst, dList_ro, dList_tup, dMin2_int, dMax2_int, dAbs_int, dEq_int, dNe_int, sCnt, sBrk, sNever, atI_0, atI_1, atI_2, sizeLine_eq, Option.bind_some, Option.map_some, Option.bind_none, Option.map_none, List.length_cons, List.length_nil, List.set_cons_zero, List.set_cons_succ, List.getElem?_cons_zero, List.getElem?_cons_succ, List.map_cons, List.map_nil, List.cons_append, List.nil_append, List.replicate, b1, b2, b3]
  · simp [runF, modeOk, fin_cons, fin, startE, sSeq, sIf, sNext, sRet, sRetN, sDrop, sAsg, sSetI, sPar, gSets, gSet, gTup', gCons', gNil', DV.comps, tQ, tE, tNot', tAnd', tOr', qVar, qC, qOp, eOp, qUn, eUn, qMk, eMk, qIf, eIf, bQ, qAnd, qOr, qNot, qChain, DV.bool?, aNil, aCons, aeNil, aeCons, ofQ, eMove, g_zero, g_succ, DV.lend, DV.owned, DV.light, dIx_tup, dIx_lst, dIx_ro, dIx_fz, dIx_ml, dIx_mr, dIx_mt, dAdd_int, dSub_int, dNeg_int, dLt_int, dLe_int, dGt_int, dGe_int, dInt_int, dLen_tup, dLen_lst, dLen_ro, dLen_fz, mkT, mkL, pures, sAug, eAppend, isL, dAppend, dSetI, amQ, amE, eCallM, eCall, qCall, oNone, oSome, qSl, dSl_tup, dSl_lst, dSl_ro, dSl_fz, dTuple_lst, dTuple_ro, dTuple_tup, dList_lst, dList_ro, dList_tup, dMin2_int, dMax2_int, dAbs_int, dEq_int, dNe_int, sCnt, sBrk, sNever, atI_0, atI_1, atI_2, sizeLine_eq, Option.bind_some, Option.map_some, Option.bind_none, Option.map_none, List.length_cons, List.length_nil, List.set_cons_zero, List.set_cons_succ, List.getElem?_cons_zero, List.getElem?_cons_succ, List.map_cons, List.map_nil, List.cons_append, List.nil_append, List.replicate, fSeq, qO, DV.itm]
  · simp [forL, runF, modeOk, fin_cons, fin, startE, sSeq, sIf, sNext, sRet, sRetN, sDrop, sAsg, sSetI, sPar, gSets, gSet, gTup', gCons', gNil', DV.comps, tQ, tE, tNot', tAnd', tOr', qVar, qC, qOp, eOp, qUn, eUn, qMk, eMk, qIf, eIf, bQ, qAnd, qOr, qNot, qChain, DV.bool?, aNil, aCons, aeNil, aeCons, ofQ, eMove, g_zero, g_succ, DV.lend, DV.owned, DV.light, dIx_tup, dIx_lst, dIx_ro, dIx_fz, dIx_ml, dIx_mr, dIx_mt, dAdd_int, dSub_int, dNeg_int, dLt_int, dLe_int, dGt_int, dGe_int, dInt_int, dLen_tup, dLen_lst, dLen_ro, dLen_fz, mkT, mkL, pures, sAug, eAppend, isL, dAppend, dSetI, amQ, amE, eCallM, eCall, qCall, oNone, oSome, qSl, dSl_tup, dSl_lst, dSl_ro, dSl_fz, dTuple_lst, dTuple_ro, dTuple_tup, dList_lst, dList_ro, dList_tup, dMin2_int, dMax2_int, dAbs_int, dEq_int, dNe_int, sCnt, sBrk, sNever, atI_0, atI_1, atI_2, sizeLine_eq, Option.bind_some, Option.map_some, Option.bind_none, Option.map_none, List.length_cons, List.length_nil, List.set_cons_zero, List.set_cons_succ, List.getElem?_cons_zero, List.getElem?_cons_succ, List.map_cons, List.map_nil, List.cons_append, List.nil_append, List.replicate, b4, b5, b6]
end k25G
theorem k25_holds : PySem.Challenge.rw_pouredastold_k25_whole_sixty_seasons_fil.Holds := k25G_holds_of (k25G.law_of k25G.right_ok)
theorem PySem.Challenge.cw_pouredastold_k25_whole_sixty_seasons_fil_holds : PySem.Challenge.rw_pouredastold_k25_whole_sixty_seasons_fil.Holds :=
  k25_holds
