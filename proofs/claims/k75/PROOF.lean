import PyProof.Rows.All
import Wide.All
import OpenK.AllK
import Wide.FinOn
import HandS.ForMost
import HandS.Exc
import HandS.ExcOwn
import HandS.WordsExc
import HandS.Deep
import HandS.Conv
import HandS.Zip
import HandS.Lambda
import KE.KDictKeyed
import KE.KeyNested
import HandS.TupAny
import HandS.TupMul
import HandS.Style
import HandS.IsInst
import HandS.WordsList
import HandS.SortInts
import HandS.Strs
import KE.SortData
import HandS.More
import KE.KRevSl
import HandS.Dict
import KE.GoesEnum
import HandS.DictComp
import HandS.Defaults
import HandS.ExcField
import HandS.Small
import HandS.RaiseMore
import PyProof.ReprRoads
import KE.KExcLine
import HandS.ExcInit
import HandS.TryMany
import HandS.EndTab
import HandS.HeadWalk
import HandS.Head0
import HandS.Head1
import HandS.Head2
import HandS.HeadHook4
import PyProof.ExcBaseAll.ValueError
import PySem.Challenge.RW_heldterms_k75_worlds_of_three_parts
set_option Elab.async false
set_option linter.all false
set_option maxRecDepth 100000
set_option maxHeartbeats 4000000
namespace AX
open PySem PySem.Spec PyProof.Rows L2

/-- data: a tuple is its items; ref: an object that may change, or a def -/
inductive D where
  | non | bl (b : Bool) | int (i : Int) | str (x : Str) | tup (xs : List D) | ref (a : Addr)

mutual
def D.beq : D → D → Bool
  | .non, .non => true
  | .bl a, .bl b => a == b
  | .int a, .int b => a == b
  | .str a, .str b => a == b
  | .tup a, .tup b => D.beqs a b
  | .ref a, .ref b => a == b
  | _, _ => false
def D.beqs : List D → List D → Bool
  | [], [] => true
  | a :: as, b :: bs => D.beq a b && D.beqs as bs
  | _, _ => false
end
mutual
theorem D.beq_self : ∀ a : D, D.beq a a = true
  | .non => rfl
  | .bl a => by simp [D.beq]
  | .int a => by simp [D.beq]
  | .str a => by simp [D.beq]
  | .tup a => by rw [D.beq]; exact D.beqs_self a
  | .ref a => by simp [D.beq]
theorem D.beqs_self : ∀ a : List D, D.beqs a a = true
  | [] => rfl
  | a :: as => by rw [D.beqs, D.beq_self a, D.beqs_self as]; rfl
end
mutual
theorem D.eq_of_beq : ∀ a b : D, D.beq a b = true → a = b
  | .non, b, h => by cases b <;> first | rfl | (simp [D.beq] at h)
  | .bl a, b, h => by cases b <;> first | (simp [D.beq] at h; done) | (simp only [D.beq, beq_iff_eq] at h; rw [h])
  | .int a, b, h => by cases b <;> first | (simp [D.beq] at h; done) | (simp only [D.beq, beq_iff_eq] at h; rw [h])
  | .str a, b, h => by cases b <;> first | (simp [D.beq] at h; done) | (simp only [D.beq, beq_iff_eq] at h; rw [h])
  | .ref a, b, h => by cases b <;> first | (simp [D.beq] at h; done) | (simp only [D.beq, beq_iff_eq] at h; rw [h])
  | .tup a, b, h => by
    cases b with
    | tup b => rw [D.beq] at h; rw [D.eq_of_beqs a b h]
    | _ => simp [D.beq] at h
theorem D.eq_of_beqs : ∀ a b : List D, D.beqs a b = true → a = b
  | [], [], _ => rfl
  | a :: as, b :: bs, h => by
    rw [D.beqs, Bool.and_eq_true] at h
    rw [D.eq_of_beq a b h.1, D.eq_of_beqs as bs h.2]
  | [], _ :: _, h => by simp [D.beqs] at h
  | _ :: _, [], h => by simp [D.beqs] at h
end
instance : DecidableEq D := fun a b => if h : D.beq a b = true then Decidable.isTrue (D.eq_of_beq a b h) else Decidable.isFalse fun e => h (e ▸ D.beq_self a)
instance : Inhabited D := ⟨.non⟩

/-- what stands at an address: a list, a dict by ints and texts, an instance, a dict by tuples -/
inductive O where
  | lst (xs : List D) | dK (kvs : List (Key × D)) | ins (C : Addr) (fs : List (Str × D)) | dN (kvs : List (D × D)) | tab (q : Str) | xd (fs : List (Str × D))
abbrev AH := Addr → Option O
def aup (h : AH) (a : Addr) (o : O) : AH := fun b => if b = a then some o else h b
theorem aup_same {h : AH} {a : Addr} {o : O} : aup h a o a = some o := by unfold aup; rw [if_pos rfl]
theorem aup_ne {h : AH} {a b : Addr} {o : O} (e : b ≠ a) : aup h a o b = h b := by unfold aup; rw [if_neg e]
theorem aup_aup {h : AH} {a : Addr} {o u : O} : aup (aup h a o) a u = aup h a u := by
  funext b; unfold aup; split <;> rfl
theorem aup_self {h : AH} {a : Addr} {o : O} (e : h a = some o) : aup h a o = h := by
  funext b; unfold aup; split
  · rename_i z; rw [z, e]
  · rfl
theorem aup_comm {h : AH} {a b : Addr} {o u : O} (e : a ≠ b) : aup (aup h a o) b u = aup (aup h b u) a o := by
  funext c; unfold aup
  by_cases h1 : c = b
  · subst h1; rw [if_pos rfl, if_neg (Ne.symm e), if_pos rfl]
  · rw [if_neg h1, if_neg h1]
/-- all of h stands in h' -/
def Sub (h h' : AH) : Prop := ∀ a o, h a = some o → h' a = some o
theorem Sub.refl (h : AH) : Sub h h := fun _ _ e => e
theorem Sub.trans {h h1 h2 : AH} (x : Sub h h1) (y : Sub h1 h2) : Sub h h2 := fun a o e => y a o (x a o e)
theorem Sub.new {h : AH} {a : Addr} {o : O} (e : h a = none) : Sub h (aup h a o) := fun b u q => by
  rw [aup_ne (by rintro rfl; rw [e] at q; cases q)]; exact q

/-- a tuple that has no dict of its own -/
def NdT (K : PySem.W.Frag) (H : Hp) (a : Addr) (vs : List V) : Prop :=
  (∃ o, H a = some (.frz o (.tup vs)) ∧ o.dict = none) ∨
    ∃ (o : Obj) (its : Array Value) (n : Nat), K.lookup a = some o ∧ o.cls = .type "tuple" ∧ o.data = .seq its n ∧ its.size ≤ sizeLine ∧ Vals vs its.toList ∧ o.dict = none
theorem NdT.sqT {K : PySem.W.Frag} {H : Hp} {a : Addr} {vs : List V} (x : NdT K H a vs) : SqT K H a vs := by
  rcases x with ⟨o, h, _⟩ | ⟨o, its, n, h1, h2, h3, h4, h5, _⟩
  · exact .inl (.inr ⟨o, h⟩)
  · exact .inr ⟨o, its, n, h1, h2, h3, h4, h5⟩
section
variable (K : PySem.W.Frag) (H : Hp)
mutual
inductive RD : D → V → Prop
  | non : RD .non .non
  | bl (b : Bool) : RD (.bl b) (.bl b)
  | int (i : Int) : RD (.int i) (.int i)
  | str (x : Str) : RD (.str x) (.str x)
  | ref (a : Addr) : RD (.ref a) (.ref a)
  | tup {a : Addr} {xs : List D} {vs : List V} : NdT K H a vs → RDs xs vs → RD (.tup xs) (.ref a)
inductive RDs : List D → List V → Prop
  | nil : RDs [] []
  | cons {x : D} {xs : List D} {v : V} {vs : List V} : RD x v → RDs xs vs → RDs (x :: xs) (v :: vs)
end
end

/-- tuples and locked objects stay -/
structure HExt (H H' : Hp) : Prop where
  tups : ∀ b xs, H b = some (.tup xs) → H' b = some (.tup xs)
  frzs : ∀ b o u, H b = some (.frz o u) → H' b = some (.frz o u)
theorem HExt.refl (H : Hp) : HExt H H := ⟨fun _ _ e => e, fun _ _ _ e => e⟩
theorem HExt.trans {H H1 H2 : Hp} (a : HExt H H1) (b : HExt H1 H2) : HExt H H2 := ⟨fun c xs e => b.tups c xs (a.tups c xs e), fun c o u e => b.frzs c o u (a.frzs c o u e)⟩
theorem HExt.new {H : Hp} {p : Addr} {o : HO} (e : H p = none) : HExt H (upd H p o) :=
  ⟨fun b xs q => by rw [upd_ne (ne_of_none q e)]; exact q, fun b u v q => by rw [upd_ne (ne_of_none q e)]; exact q⟩
theorem HExt.write {H : Hp} {p : Addr} {o u : HO} (e : H p = some o) (n1 : ∀ xs, o ≠ .tup xs) (n2 : ∀ z v, o ≠ .frz z v) : HExt H (upd H p u) :=
  ⟨fun b xs q => by
    have : b ≠ p := by rintro rfl; rw [e] at q; cases q; exact n1 _ rfl
    rw [upd_ne this]; exact q,
   fun b z v q => by
    have : b ≠ p := by rintro rfl; rw [e] at q; cases q; exact n2 _ _ rfl
    rw [upd_ne this]; exact q⟩
theorem HExt.ndT {K : PySem.W.Frag} {H H' : Hp} {a : Addr} {vs : List V} (x : HExt H H') (h : NdT K H a vs) : NdT K H' a vs := by
  rcases h with ⟨o, h, d⟩ | h
  · exact .inl ⟨o, x.frzs _ _ _ h, d⟩
  · exact .inr h
theorem HExt.sqT {K : PySem.W.Frag} {H H' : Hp} {a : Addr} {vs : List V} (x : HExt H H') (h : SqT K H a vs) : SqT K H' a vs := by
  rcases h with (h | ⟨o, h⟩) | h
  · exact .inl (.inl (x.tups _ _ h))
  · exact .inl (.inr ⟨o, x.frzs _ _ _ h⟩)
  · exact .inr h
mutual
theorem RD.ext {K : PySem.W.Frag} {H H' : Hp} (x : HExt H H') : ∀ (d : D) (v : V), RD K H d v → RD K H' d v
  | .non, _, h => by cases h; exact .non
  | .bl b, _, h => by cases h; exact .bl b
  | .int b, _, h => by cases h; exact .int b
  | .str b, _, h => by cases h; exact .str b
  | .ref b, _, h => by cases h; exact .ref b
  | .tup xs, _, h => by
    cases h with
    | tup h1 h2 => exact .tup (x.ndT h1) (RDs.ext x xs _ h2)
theorem RDs.ext {K : PySem.W.Frag} {H H' : Hp} (x : HExt H H') : ∀ (ds : List D) (vs : List V), RDs K H ds vs → RDs K H' ds vs
  | [], _, h => by cases h; exact .nil
  | d :: ds, _, h => by
    cases h with
    | cons h1 h2 => exact .cons (RD.ext x d _ h1) (RDs.ext x ds _ h2)
end
theorem RD.mono {K : PySem.W.Frag} {H H' : Hp} {d : D} {v : V} (h : RD K H d v) (x : HExt H H') : RD K H' d v := RD.ext x d v h
theorem RDs.mono {K : PySem.W.Frag} {H H' : Hp} {d : List D} {v : List V} (h : RDs K H d v) (x : HExt H H') : RDs K H' d v := RDs.ext x d v h
theorem RDs.length {K : PySem.W.Frag} {H : Hp} : ∀ {d : List D} {v : List V}, RDs K H d v → d.length = v.length
  | [], _, h => by cases h; rfl
  | _ :: _, _, h => by cases h with | cons _ h2 => simp [RDs.length h2]
theorem RDs.get {K : PySem.W.Frag} {H : Hp} : ∀ {ds : List D} {vs : List V} {i : Nat} {d : D}, RDs K H ds vs → ds[i]? = some d → ∃ v, vs[i]? = some v ∧ RD K H d v
  | [], _, _, _, _, e => by simp at e
  | _ :: _, _, 0, _, h, e => by cases h with | cons h1 _ => simp at e; subst e; exact ⟨_, rfl, h1⟩
  | _ :: _, _, i + 1, d, h, e => by
    cases h with
    | cons _ h2 =>
      obtain ⟨v, e1, r⟩ := RDs.get (i := i) (d := d) h2 (by simpa using e)
      exact ⟨v, by simpa using e1, r⟩
theorem RDs.get' {K : PySem.W.Frag} {H : Hp} {ds : List D} {vs : List V} {i : Nat} {v : V} (h : RDs K H ds vs) (e : vs[i]? = some v) : ∃ d, ds[i]? = some d ∧ RD K H d v := by
  obtain ⟨hi, _⟩ := List.getElem?_eq_some_iff.mp e
  have hi' : i < ds.length := by rw [h.length]; exact hi
  obtain ⟨v', e1, r⟩ := h.get (List.getElem?_eq_getElem hi')
  rw [e] at e1; cases e1
  exact ⟨_, List.getElem?_eq_getElem hi', r⟩
theorem RDs.append {K : PySem.W.Frag} {H : Hp} : ∀ {a b : List D} {u v : List V}, RDs K H a u → RDs K H b v → RDs K H (a ++ b) (u ++ v)
  | [], _, _, _, h, g => by cases h; exact g
  | _ :: _, _, _, _, h, g => by cases h with | cons h1 h2 => exact .cons h1 (RDs.append h2 g)
theorem RDs.one {K : PySem.W.Frag} {H : Hp} {d : D} {v : V} (h : RD K H d v) : RDs K H [d] [v] := .cons h .nil
theorem RDs.take {K : PySem.W.Frag} {H : Hp} : ∀ {a : List D} {u : List V} (n : Nat), RDs K H a u → RDs K H (a.take n) (u.take n)
  | _, _, 0, _ => by simp; exact .nil
  | [], _, _ + 1, h => by cases h; exact .nil
  | _ :: _, _, n + 1, h => by cases h with | cons h1 h2 => exact .cons h1 (RDs.take n h2)
theorem RDs.drop {K : PySem.W.Frag} {H : Hp} : ∀ {a : List D} {u : List V} (n : Nat), RDs K H a u → RDs K H (a.drop n) (u.drop n)
  | _, _, 0, h => h
  | [], _, _ + 1, h => by cases h; exact .nil
  | _ :: _, _, n + 1, h => by cases h with | cons h1 h2 => exact RDs.drop n h2
theorem RDs.set {K : PySem.W.Frag} {H : Hp} {d : D} {v : V} (r : RD K H d v) : ∀ {a : List D} {u : List V} (n : Nat), RDs K H a u → RDs K H (a.set n d) (u.set n v)
  | [], _, _, h => by cases h; exact .nil
  | _ :: _, _, 0, h => by cases h with | cons h1 h2 => exact .cons r h2
  | _ :: _, _, n + 1, h => by cases h with | cons h1 h2 => exact .cons h1 (RDs.set r n h2)
theorem RDs.erase {K : PySem.W.Frag} {H : Hp} : ∀ {a : List D} {u : List V} (n : Nat), RDs K H a u → RDs K H (a.eraseIdx n) (u.eraseIdx n)
  | [], _, _, h => by cases h; exact .nil
  | _ :: _, _, 0, h => by cases h with | cons h1 h2 => exact h2
  | _ :: _, _, n + 1, h => by cases h with | cons h1 h2 => exact .cons h1 (RDs.erase n h2)
theorem RDs.rev {K : PySem.W.Frag} {H : Hp} : ∀ {a : List D} {u : List V}, RDs K H a u → RDs K H a.reverse u.reverse
  | [], _, h => by cases h; exact .nil
  | _ :: _, _, h => by
    cases h with
    | cons h1 h2 => rw [List.reverse_cons, List.reverse_cons]; exact (RDs.rev h2).append (RDs.one h1)
theorem RDs.ints {K : PySem.W.Frag} {H : Hp} : ∀ {ns : List Int} {u : List V}, RDs K H (ns.map D.int) u → u = ns.map V.int
  | [], _, h => by cases h; rfl
  | _ :: _, _, h => by cases h with | cons h1 h2 => cases h1; rw [RDs.ints h2]; rfl
theorem RDs.of_ints {K : PySem.W.Frag} {H : Hp} : ∀ (ns : List Int), RDs K H (ns.map D.int) (ns.map V.int)
  | [] => .nil
  | n :: ns => .cons (.int n) (RDs.of_ints ns)
theorem RDs.bls {K : PySem.W.Frag} {H : Hp} : ∀ {ns : List Bool} {u : List V}, RDs K H (ns.map D.bl) u → u = ns.map V.bl
  | [], _, h => by cases h; rfl
  | _ :: _, _, h => by cases h with | cons h1 h2 => cases h1; rw [RDs.bls h2]; rfl
theorem RDs.strs {K : PySem.W.Frag} {H : Hp} : ∀ {ns : List Str} {u : List V}, RDs K H (ns.map D.str) u → u = ns.map V.str
  | [], _, h => by cases h; rfl
  | _ :: _, _, h => by cases h with | cons h1 h2 => cases h1; rw [RDs.strs h2]; rfl

/-! ### keys that are tuples -/
mutual
def NK : D → Option NestedKey
  | .non => some .none
  | .int i => some (.num i)
  | .str x => some (.text x)
  | .tup xs => (NKs xs).map .tup
  | .bl _ => none
  | .ref _ => none
def NKs : List D → Option (List NestedKey)
  | [] => some []
  | x :: xs => match NK x, NKs xs with
    | some k, some ks => some (k :: ks)
    | _, _ => none
end
theorem NKs_cons {x : D} {xs : List D} {ks : List NestedKey} (h : NKs (x :: xs) = some ks) : ∃ k r, ks = k :: r ∧ NK x = some k ∧ NKs xs = some r := by
  unfold NKs at h
  split at h
  · rename_i k r e1 e2
    cases h
    exact ⟨k, r, rfl, e1, e2⟩
  · cases h
mutual
theorem NK_inj : ∀ (x y : D) (k : NestedKey), NK x = some k → NK y = some k → x = y
  | .non, y, k, h1, h2 => by
    simp only [NK, Option.some.injEq] at h1; subst h1
    cases y <;> simp [NK] at h2 <;> rfl
  | .int i, y, k, h1, h2 => by
    simp only [NK, Option.some.injEq] at h1; subst h1
    cases y <;> simp [NK] at h2; rw [h2]
  | .str i, y, k, h1, h2 => by
    simp only [NK, Option.some.injEq] at h1; subst h1
    cases y <;> simp [NK] at h2; rw [h2]
  | .bl _, _, _, h1, _ => by simp [NK] at h1
  | .ref _, _, _, h1, _ => by simp [NK] at h1
  | .tup xs, y, k, h1, h2 => by
    simp only [NK, Option.map_eq_some_iff] at h1
    obtain ⟨ks, e1, rfl⟩ := h1
    cases y with
    | tup ys =>
      simp only [NK, Option.map_eq_some_iff, NestedKey.tup.injEq] at h2
      obtain ⟨ks', e2, rfl⟩ := h2
      rw [NKs_inj xs ys _ e1 e2]
    | _ => simp [NK] at h2
theorem NKs_inj : ∀ (xs ys : List D) (ks : List NestedKey), NKs xs = some ks → NKs ys = some ks → xs = ys
  | [], ys, ks, h1, h2 => by
    simp only [NKs, Option.some.injEq] at h1; subst h1
    cases ys with
    | nil => rfl
    | cons y ys => obtain ⟨_, _, e, _⟩ := NKs_cons h2; cases e
  | x :: xs, ys, ks, h1, h2 => by
    obtain ⟨k, r, rfl, e1, e2⟩ := NKs_cons h1
    cases ys with
    | nil => simp [NKs] at h2
    | cons y ys =>
      obtain ⟨k', r', e, e3, e4⟩ := NKs_cons h2
      cases e
      rw [NK_inj x y k e1 e3, NKs_inj xs ys r e2 e4]
end
/-- a key of a dict by tuples -/
def KeyOf (d : D) (k : NestedKey) : Prop := NK d = some k ∧ (∃ xs, d = .tup xs) ∧ k.depth ≤ 8
end AX

set_option Elab.async false
set_option linter.all false
set_option maxRecDepth 100000
set_option maxHeartbeats 4000000
namespace AX
open PySem PySem.Spec PyProof.Rows L2

/-! ### what stands, abstractly and by the layer -/
def DNo (a : Addr) (es : Array DictEntry) (ep : Nat) : HO := .ext fun h => ∃ o, h.get? a = some o ∧ o.ExactDict ∧ o.data = .dict es ep
section
variable (P : Program) (w : World) (K : PySem.W.Frag) (H : Hp)
def ROdN (a : Addr) (kvs : List (D × D)) : Prop :=
  kvs.length ≤ sizeLine ∧ (a == sysModules) = false ∧ ∃ (es : Array DictEntry) (ep : Nat) (xs : List (NestedKey × Addr × Value)), H a = some (DNo a es ep) ∧ es.toList = xs.map (entryOfKey (nestedKind P w)) ∧ (xs.map (·.1)).Nodup ∧
    Paired (fun (p : D × D) (q : NestedKey × Addr × Value) => KeyOf p.1 q.1 ∧ RD K H p.1 (.ref q.2.1) ∧ ∃ v, RD K H p.2 v ∧ RelV v q.2.2) kvs xs
def RO (a : Addr) : O → Prop
  | .lst xs => ∃ vs, H a = some (.lst vs) ∧ RDs K H xs vs
  | .dK kvs => ∃ ws, H a = some (.dK ws) ∧ ws.map (·.1) = kvs.map (·.1) ∧ RDs K H (kvs.map (·.2)) (ws.map (·.2))
  | .ins C fs => ∃ dx gs, H a = some (.ins C dx gs) ∧ gs.map (·.1) = fs.map (·.1) ∧ RDs K H (fs.map (·.2)) (gs.map (·.2))
  | .dN kvs => ROdN P w K H a kvs
  | .tab q => LamX.TabS H a q
  | .xd fs => ∃ gs, H a = some (.xd gs) ∧ gs.map (·.1) = fs.map (·.1) ∧ RDs K H (fs.map (·.2)) (gs.map (·.2))
end
theorem _root_.PySem.Paired.imp {α β : Type} {F G : α → β → Prop} {l₁ : List α} {l₂ : List β} (h : Paired F l₁ l₂) (f : ∀ a b, F a b → G a b) : Paired G l₁ l₂ := Paired.mapP h f
section
variable {P : Program} {w : World} {K : PySem.W.Frag} {H H' : Hp}
theorem RO.keep {a : Addr} {o : O} (r : RO P w K H a o) (x : HExt H H') (e : H' a = H a) (ec : ∀ c q, H c = some (LamX.CodeO c q) → H' c = some (LamX.CodeO c q)) : RO P w K H' a o := by
  cases o with
  | lst xs => obtain ⟨vs, h1, h2⟩ := r; exact ⟨vs, e.trans h1, h2.mono x⟩
  | dK kvs => obtain ⟨ws, h1, h2, h3⟩ := r; exact ⟨ws, e.trans h1, h2, h3.mono x⟩
  | ins C fs => obtain ⟨dx, gs, h1, h2, h3⟩ := r; exact ⟨dx, gs, e.trans h1, h2, h3.mono x⟩
  | dN kvs =>
    obtain ⟨h1, h2, es, ep, xs, h3, h4, h5, h6⟩ := r
    exact ⟨h1, h2, es, ep, xs, e.trans h3, h4, h5, h6.imp fun p q ⟨k, r1, v, r2, r3⟩ => ⟨k, r1.mono x, v, r2.mono x, r3⟩⟩
  | tab q =>
    obtain ⟨ps, h1, h2, h3⟩ := r
    exact ⟨ps, e.trans h1, h2, fun pos cv hc => let ⟨c, e1, e2⟩ := h3 pos cv hc; ⟨c, e1, ec _ _ e2⟩⟩
  | xd fs => obtain ⟨gs, h1, h2, h3⟩ := r; exact ⟨gs, e.trans h1, h2, h3.mono x⟩
theorem RO.there {a : Addr} {o : O} (r : RO P w K H a o) : ∃ u, H a = some u := by
  cases o with
  | lst xs => obtain ⟨_, h, _⟩ := r; exact ⟨_, h⟩
  | dK xs => obtain ⟨_, h, _⟩ := r; exact ⟨_, h⟩
  | ins C xs => obtain ⟨_, _, h, _⟩ := r; exact ⟨_, h⟩
  | dN xs => obtain ⟨_, _, _, _, _, h, _⟩ := r; exact ⟨_, h⟩
  | tab q => obtain ⟨_, h, _⟩ := r; exact ⟨_, h⟩
  | xd q => obtain ⟨_, h, _⟩ := r; exact ⟨_, h⟩
end

def RHp (P : Program) (w : World) (K : PySem.W.Frag) (h : AH) (H : Hp) : Prop := ∀ a o, h a = some o → RO P w K H a o
abbrev RH (X : Cx) (h : AH) (H : Hp) : Prop := RHp X.prog X.w X.K h H
section
variable {P : Program} {w : World} {K : PySem.W.Frag} {H H' : Hp} {h h' : AH}
theorem RHp.weak (r : RHp P w K h H) (s : Sub h' h) : RHp P w K h' H := fun a o e => r a o (s a o e)
/-- an object that is not told is laid -/
theorem RHp.junk {p : Addr} {u : HO} (r : RHp P w K h H) (n : H p = none) : RHp P w K h (upd H p u) := fun a o e => by
  obtain ⟨z, q⟩ := (r a o e).there
  exact (r a o e).keep (.new n) (upd_ne (ne_of_none q n)) fun c q z => by rw [upd_ne (ne_of_none z n)]; exact z
theorem RHp.free {p : Addr} (r : RHp P w K h H) (n : H p = none) : h p = none := by
  cases e : h p with
  | none => rfl
  | some o => obtain ⟨u, q⟩ := (r p o e).there; rw [n] at q; cases q
theorem RHp.put {p : Addr} {u : HO} {o' : O} (r : RHp P w K h H) (x : HExt H (upd H p u)) (n : RO P w K (upd H p u) p o') (nc : ∀ q, H p ≠ some (LamX.CodeO p q)) : RHp P w K (aup h p o') (upd H p u) := fun a o e => by
  by_cases ha : a = p
  · subst ha; rw [aup_same] at e; cases e; exact n
  · rw [aup_ne ha] at e
    exact (r a o e).keep x (upd_ne ha) fun c q z => by rw [upd_ne (fun e => nc q (by subst e; exact z))]; exact z
theorem RHp.new {p : Addr} {u : HO} {o' : O} (r : RHp P w K h H) (e : H p = none) (n : RO P w K (upd H p u) p o') : RHp P w K (aup h p o') (upd H p u) := r.put (.new e) n fun q z => by rw [e] at z; cases z
end

/-! ### slots -/
abbrev ASt := List (Option D)
def RS (K : PySem.W.Frag) (H : Hp) (σ : ASt) (τ : L2.St) : Prop := σ.length = τ.length ∧ ∀ (i : Nat) (d : D), σ[i]? = some (some d) → ∃ v, τ[i]? = some (some v) ∧ RD K H d v
section
variable {K : PySem.W.Frag} {H H' : Hp} {σ : ASt} {τ : L2.St}
theorem RS.mono (r : RS K H σ τ) (x : HExt H H') : RS K H' σ τ := ⟨r.1, fun i d e => let ⟨v, h1, h2⟩ := r.2 i d e; ⟨v, h1, h2.mono x⟩⟩
theorem RS.set {d : D} {v : V} (r : RS K H σ τ) (i : Nat) (q : RD K H d v) : RS K H (σ.set i (some d)) (τ.set i (some v)) := by
  refine ⟨by simp [r.1], fun j d' e => ?_⟩
  by_cases hj : i = j
  · subst hj
    by_cases hi : i < σ.length
    · rw [List.getElem?_set_self hi] at e; cases e
      exact ⟨v, List.getElem?_set_self (by rw [← r.1]; exact hi), q⟩
    · have : (σ.set i (some d))[i]? = none := List.getElem?_eq_none (by simpa using hi)
      rw [this] at e; cases e
  · rw [List.getElem?_set_ne hj] at e
    obtain ⟨v', h1, h2⟩ := r.2 j d' e
    exact ⟨v', by rw [List.getElem?_set_ne hj]; exact h1, h2⟩
theorem RS.none (r : RS K H σ τ) (i : Nat) : RS K H (σ.set i Option.none) (τ.set i Option.none) := by
  refine ⟨by simp [r.1], fun j d' e => ?_⟩
  by_cases hj : i = j
  · subst hj
    by_cases hi : i < σ.length
    · rw [List.getElem?_set_self hi] at e; cases e
    · have : (σ.set i Option.none)[i]? = Option.none := List.getElem?_eq_none (by simpa using hi)
      rw [this] at e; cases e
  · rw [List.getElem?_set_ne hj] at e
    obtain ⟨v', h1, h2⟩ := r.2 j d' e
    exact ⟨v', by rw [List.getElem?_set_ne hj]; exact h1, h2⟩
theorem RS.start : ∀ {ds : List D} {vs : List V}, RDs K H ds vs → ∀ n, RS K H (ds.map some ++ List.replicate n Option.none) (vs.map some ++ List.replicate n Option.none) := fun {ds vs} r n => by
  have hl := r.length
  refine ⟨by simp [hl], fun i d e => ?_⟩
  by_cases hi : i < ds.length
  · rw [List.getElem?_append_left (by simpa using hi), List.getElem?_map] at e
    cases q : ds[i]? with
    | none => rw [q] at e; cases e
    | some d' =>
      rw [q] at e; cases e
      obtain ⟨v, h1, h2⟩ := r.get q
      exact ⟨v, by rw [List.getElem?_append_left (by simpa [← hl] using hi), List.getElem?_map, h1]; rfl, h2⟩
  · rw [List.getElem?_append_right (by simpa using hi), List.getElem?_replicate] at e
    split at e <;> cases e
end

/-! ### readings over data -/
abbrev DK := D → AH → Prop
abbrev AE := ASt → AH → DK → Prop
abbrev AT := ASt → AH → (Bool → AH → Prop) → Prop
abbrev AA := ASt → AH → (List D → AH → Prop) → Prop
abbrev A2 := D → D → AH → DK → Prop
/-- the end of a reading -/
def Cont (X : Cx) (H : Hp) (R : DK) (Q : VK) : Prop := ∀ d v h' H', HExt H H' → RD X.K H' d v → RH X h' H' → R d h' → Q v H'
def ContB (X : Cx) (H : Hp) (R : Bool → AH → Prop) (Q : Bool → Hp → Prop) : Prop := ∀ b h' H', HExt H H' → RH X h' H' → R b h' → Q b H'
def ContA (X : Cx) (H : Hp) (R : List D → AH → Prop) (Q : List V → Hp → Prop) : Prop := ∀ ds vs h' H', HExt H H' → RDs X.K H' ds vs → RH X h' H' → R ds h' → Q vs H'
theorem Cont.ext {X : Cx} {H H1 : Hp} {R : DK} {Q : VK} (c : Cont X H R Q) (x : HExt H H1) : Cont X H1 R Q := fun d v h' H' e => c d v h' H' (x.trans e)
theorem ContB.ext {X : Cx} {H H1 : Hp} {R : Bool → AH → Prop} {Q : Bool → Hp → Prop} (c : ContB X H R Q) (x : HExt H H1) : ContB X H1 R Q := fun d h' H' e => c d h' H' (x.trans e)
theorem ContA.ext {X : Cx} {H H1 : Hp} {R : List D → AH → Prop} {Q : List V → Hp → Prop} (c : ContA X H R Q) (x : HExt H H1) : ContA X H1 R Q := fun d v h' H' e => c d v h' H' (x.trans e)
def upE (X : Cx) (t : AE) : TE := fun τ H Q => ∃ σ h R, RS X.K H σ τ ∧ RH X h H ∧ t σ h R ∧ Cont X H R Q
def upT (X : Cx) (t : AT) : TT := fun τ H Q => ∃ σ h R, RS X.K H σ τ ∧ RH X h H ∧ t σ h R ∧ ContB X H R Q
def upA (X : Cx) (t : AA) : TA := fun τ H Q => ∃ σ h R, RS X.K H σ τ ∧ RH X h H ∧ t σ h R ∧ ContA X H R Q
def upR (X : Cx) (r : A2) : R2 := fun x y H Q => ∃ dx dy h R, RD X.K H dx x ∧ RD X.K H dy y ∧ RH X h H ∧ r dx dy h R ∧ Cont X H R Q
abbrev EJ (X : Cx) (e : Expr) (t : AE) : Prop := PE X e (upE X t)
abbrev TJ (X : Cx) (e : Expr) (t : AT) : Prop := PT X e (upT X t)
abbrev WJ (X : Cx) (e : Expr) (t : AT) : Prop := PW X e (upT X t)
abbrev AJ (X : Cx) (es : List Expr) (t : AA) : Prop := PA X es (upA X t)
abbrev OJ (X : Cx) (f : Value → Value → Sem Value) (r : A2) : Prop := OpR X f (upR X r)

theorem ext0 {X : Cx} {pins : List (Addr × Obj)} {σ : L2.St} {H : Hp} {s : Shared} (I : Inv X pins σ H s) : HExt X.H_0 H := ⟨I.base.tups, I.base.frzs⟩
theorem _root_.L2.PE.imp {X : Cx} {e : Expr} {t t' : TE} (h : PE X e t') (f : ∀ τ H Q, HExt X.H_0 H → t τ H Q → t' τ H Q) : PE X e t := ⟨fun pins s σ H Q I q => h.run pins s σ H Q I (f _ _ _ (ext0 I) q)⟩
theorem _root_.L2.PT.imp {X : Cx} {e : Expr} {t t' : TT} (h : PT X e t') (f : ∀ τ H Q, HExt X.H_0 H → t τ H Q → t' τ H Q) : PT X e t := ⟨fun pins s σ H Q I q => h.run pins s σ H Q I (f _ _ _ (ext0 I) q)⟩
theorem _root_.L2.PW.imp {X : Cx} {e : Expr} {t t' : TT} (h : PW X e t') (f : ∀ τ H Q, HExt X.H_0 H → t τ H Q → t' τ H Q) : PW X e t := ⟨fun wh pins s σ H Q I q => h.run wh pins s σ H Q I (f _ _ _ (ext0 I) q)⟩
theorem _root_.L2.PA.imp {X : Cx} {es : List Expr} {t t' : TA} (h : PA X es t') (f : ∀ τ H Q, HExt X.H_0 H → t τ H Q → t' τ H Q) : PA X es t := ⟨fun pos pins s σ H Q I q => h.run pos pins s σ H Q I (f _ _ _ (ext0 I) q)⟩
theorem _root_.L2.PS.imp {X : Cx} {e : Stmt} {t t' : TS} (h : PS X e t') (f : ∀ D τ H, HExt X.H_0 H → t D τ H → t' D τ H) : PS X e t := ⟨fun pins s σ H D I q => h.run pins s σ H D I (f _ _ _ (ext0 I) q)⟩
theorem _root_.L2.PSs.imp {X : Cx} {e : List Stmt} {t t' : TS} (h : PSs X e t') (f : ∀ D τ H, HExt X.H_0 H → t D τ H → t' D τ H) : PSs X e t := ⟨fun pins s σ H D I q => h.run pins s σ H D I (f _ _ _ (ext0 I) q)⟩
theorem _root_.L2.OpR.imp {X : Cx} {f : Value → Value → Sem Value} {r r' : R2} (h : OpR X f r') (g : ∀ x y H Q, HExt X.H_0 H → r x y H Q → r' x y H Q) : OpR X f r := fun pins s σ H x y v u Q I rx ry q => h pins s σ H x y v u Q I rx ry (g _ _ _ _ (ext0 I) q)

section
variable {X : Cx} {a b c e : Expr} {es : List Expr} {ta tb tc : AE} {pos : Pos}
/-- a slot -/
def aVar (i : Nat) : AE := fun σ h R => match σ[i]? with
  | some (some d) => R d h
  | _ => False
theorem e_var {i : Nat} {x : Str} {p : Pos} (hp : PE X (.Name x p) (tVar i)) : EJ X (.Name x p) (aVar i) := hp.imp fun τ H Q _ ⟨σ, h, R, hs, hh, q, c⟩ => by
  unfold aVar at q
  split at q
  · rename_i d e
    obtain ⟨v, e1, r⟩ := hs.2 i d e
    exact ⟨v, e1, c d v h H (.refl H) r hh q⟩
  · exact q.elim
/-- a constant -/
def aC (d : D) : AE := fun _ h R => R d h
theorem e_c {t : TE} {d : D} {v : V} (ht : PE X e (tC v)) (r : ∀ H, RD X.K H d v) : EJ X e (aC d) := ht.imp fun τ H Q _ ⟨σ, h, R, hs, hh, q, c⟩ => c d v h H (.refl H) (r H) hh q
theorem e_int {i j p} : EJ X (.Constant (.int i) j p) (aC (.int i)) := e_c (t := tC (.int i)) pe_int fun _ => .int i
theorem e_bl {i j p} : EJ X (.Constant (.bool i) j p) (aC (.bl i)) := e_c (t := tC (.bl i)) pe_bl fun _ => .bl i
theorem e_non {j p} : EJ X (.Constant .none j p) (aC .non) := e_c (t := tC .non) pe_non fun _ => .non
theorem e_str {x j p} : EJ X (.Constant (.str x) j p) (aC (.str x)) := e_c (t := tC (.str x)) pe_str fun _ => .str x
/-- an operation on two values -/
def aOp (r : A2) (ta tb : AE) : AE := fun σ h R => ta σ h fun x h1 => tb σ h1 fun y h2 => r x y h2 R
theorem up_op {r : A2} {τ : L2.St} {H : Hp} {Q : VK} (q : upE X (aOp r ta tb) τ H Q) : tOp (upR X r) (upE X ta) (upE X tb) τ H Q := by
  obtain ⟨σ, h, R, hs, hh, q, c⟩ := q
  refine ⟨σ, h, _, hs, hh, q, fun x vx h1 H1 e1 rx hh1 q1 => ?_⟩
  refine ⟨σ, h1, _, hs.mono e1, hh1, q1, fun y vy h2 H2 e2 ry hh2 q2 => ?_⟩
  exact ⟨x, y, h2, R, rx.mono e2, ry, hh2, q2, (c.ext e1).ext e2⟩
theorem e_op {op : Operator} {r : A2} (ho : OJ X (binaryOp op) r) (ha : EJ X a ta) (hb : EJ X b tb) : EJ X (.BinOp a op b pos) (aOp r ta tb) := (pe_op ho ha hb).imp fun _ _ _ _ q => up_op q
theorem e_cmp {op : CmpOp} {r : A2} (ho : OJ X (compareOp op) r) (ha : EJ X a ta) (hb : EJ X b tb) (hm : behindInMarks op b = false) : EJ X (.Compare a [op] [b] pos) (aOp r ta tb) := (pe_cmpR ho ha hb hm).imp fun _ _ _ _ q => up_op q
/-- an expression's reading as a test: a truth -/
def aTest (t : AE) : AT := fun σ h R => t σ h fun x h' => match x with
  | .bl k => R k h'
  | _ => False
theorem up_test {t : AE} {t' : TE} {τ : L2.St} {H : Hp} {Q : Bool → Hp → Prop} (f : ∀ Q, upE X t τ H Q → t' τ H Q) (q : upT X (aTest t) τ H Q) : t' τ H fun x H' => ∃ k, x = .bl k ∧ Q k H' := by
  obtain ⟨σ, h, R, hs, hh, q, c⟩ := q
  refine f _ ⟨σ, h, _, hs, hh, q, fun x v h1 H1 e1 rx hh1 q1 => ?_⟩
  cases x with
  | bl k => cases rx; exact ⟨k, rfl, c k h1 H1 e1 hh1 q1⟩
  | _ => exact q1.elim
theorem t_cmp {op : CmpOp} {r : A2} (ho : OJ X (compareOp op) r) (ha : EJ X a ta) (hb : EJ X b tb) (hm : behindInMarks op b = false) : TJ X (.Compare a [op] [b] pos) (aTest (aOp r ta tb)) :=
  (pt_cmpR ho ha hb hm).imp fun _ _ _ _ q => up_test (fun _ => up_op) q
theorem t_val {t : AE} (he : EJ X e t) (h : ∀ whole, isTrue e X.env whole = (do let v ← whole; standAt e.pos; holding [v] (truthy v))) : TJ X e (aTest t) :=
  (pt_val he h).imp fun _ _ _ _ q => up_test (fun _ q => q) q
def aAnd (t u : AT) : AT := fun σ h R => t σ h fun k h1 => if k = true then u σ h1 R else R false h1
def aOr (t u : AT) : AT := fun σ h R => t σ h fun k h1 => if k = true then R true h1 else u σ h1 R
def aNot (t : AT) : AT := fun σ h R => t σ h fun k h1 => R (!k) h1
variable {tA tB : AT} {rest : List Expr}
theorem w_and1 (ha : TJ X a tA) : WJ X (.BoolOp .And [a] pos) tA := pw_and1 ha
theorem w_or1 (ha : TJ X a tA) : WJ X (.BoolOp .Or [a] pos) tA := pw_or1 ha
theorem w_and (ha : TJ X a tA) (hb : WJ X (.BoolOp .And (b :: rest) pos) tB) : WJ X (.BoolOp .And (a :: b :: rest) pos) (aAnd tA tB) := (pw_and ha hb).imp fun τ H Q _ ⟨σ, h, R, hs, hh, q, c⟩ =>
  ⟨σ, h, _, hs, hh, q, fun k h1 H1 e1 hh1 q1 => by
    cases k with
    | true => exact iteT ⟨σ, h1, R, hs.mono e1, hh1, by simpa using q1, c.ext e1⟩
    | false => exact iteF (c _ _ _ e1 hh1 (by simpa using q1))⟩
theorem w_or (ha : TJ X a tA) (hb : WJ X (.BoolOp .Or (b :: rest) pos) tB) : WJ X (.BoolOp .Or (a :: b :: rest) pos) (aOr tA tB) := (pw_or ha hb).imp fun τ H Q _ ⟨σ, h, R, hs, hh, q, c⟩ =>
  ⟨σ, h, _, hs, hh, q, fun k h1 H1 e1 hh1 q1 => by
    cases k with
    | false => exact iteF ⟨σ, h1, R, hs.mono e1, hh1, by simpa using q1, c.ext e1⟩
    | true => exact iteT (c _ _ _ e1 hh1 (by simpa using q1))⟩
theorem t_not (ha : TJ X a tA) : TJ X (.UnaryOp .Not a pos) (aNot tA) := (pt_not ha).imp fun τ H Q _ ⟨σ, h, R, hs, hh, q, c⟩ =>
  ⟨σ, h, _, hs, hh, q, fun k h1 H1 e1 hh1 q1 => c _ _ _ e1 hh1 q1⟩
def aIf (t : AT) (ta tb : AE) : AE := fun σ h R => t σ h fun k h1 => if k = true then ta σ h1 R else tb σ h1 R
theorem e_if (hc : TJ X c tA) (ha : EJ X a ta) (hb : EJ X b tb) : EJ X (.IfExp c a b pos) (aIf tA ta tb) := (pe_ifExp hc ha hb).imp fun τ H Q _ ⟨σ, h, R, hs, hh, q, c⟩ =>
  ⟨σ, h, _, hs, hh, q, fun k h1 H1 e1 hh1 q1 => by
    cases k with
    | false => exact iteF ⟨σ, h1, R, hs.mono e1, hh1, by simpa using q1, c.ext e1⟩
    | true => exact iteT ⟨σ, h1, R, hs.mono e1, hh1, by simpa using q1, c.ext e1⟩⟩
/-- and, or, not of truths as values -/
def aAndV (ta tb : AE) : AE := fun σ h R => ta σ h fun x h1 => match x with
  | .bl k => if k = true then tb σ h1 R else R (.bl false) h1
  | _ => False
def aOrV (ta tb : AE) : AE := fun σ h R => ta σ h fun x h1 => match x with
  | .bl k => if k = true then R (.bl true) h1 else tb σ h1 R
  | _ => False
def aNotV (ta : AE) : AE := fun σ h R => ta σ h fun x h1 => match x with
  | .bl k => R (.bl (!k)) h1
  | _ => False
theorem e_one {op} (h : EJ X a ta) : EJ X (.BoolOp op [a] pos) ta := pe_one h
theorem e_and (ha : EJ X a ta) (hb : EJ X (.BoolOp .And (b :: rest) pos) tb) : EJ X (.BoolOp .And (a :: b :: rest) pos) (aAndV ta tb) := (pe_and ha hb).imp fun τ H Q _ ⟨σ, h, R, hs, hh, q, c⟩ =>
  ⟨σ, h, _, hs, hh, q, fun x v h1 H1 e1 rx hh1 q1 => by
    cases x with
    | bl k =>
      cases rx
      refine ⟨k, rfl, ?_⟩
      cases k with
      | true => exact iteT ⟨σ, h1, R, hs.mono e1, hh1, by simpa using q1, c.ext e1⟩
      | false => exact iteF (c _ _ _ _ e1 (.bl _) hh1 (by simpa using q1))
    | _ => exact q1.elim⟩
theorem e_or (ha : EJ X a ta) (hb : EJ X (.BoolOp .Or (b :: rest) pos) tb) : EJ X (.BoolOp .Or (a :: b :: rest) pos) (aOrV ta tb) := (pe_or ha hb).imp fun τ H Q _ ⟨σ, h, R, hs, hh, q, c⟩ =>
  ⟨σ, h, _, hs, hh, q, fun x v h1 H1 e1 rx hh1 q1 => by
    cases x with
    | bl k =>
      cases rx
      refine ⟨k, rfl, ?_⟩
      cases k with
      | false => exact iteF ⟨σ, h1, R, hs.mono e1, hh1, by simpa using q1, c.ext e1⟩
      | true => exact iteT (c _ _ _ _ e1 (.bl _) hh1 (by simpa using q1))
    | _ => exact q1.elim⟩
theorem e_not (ha : EJ X a ta) : EJ X (.UnaryOp .Not a pos) (aNotV ta) := (pe_not ha).imp fun τ H Q _ ⟨σ, h, R, hs, hh, q, c⟩ =>
  ⟨σ, h, _, hs, hh, q, fun x v h1 H1 e1 rx hh1 q1 => by
    cases x with
    | bl k => cases rx; exact ⟨k, rfl, c _ _ _ _ e1 (.bl _) hh1 q1⟩
    | _ => exact q1.elim⟩
/-- rows of arguments -/
def aNil : AA := fun _ h R => R [] h
def aCons (ta : AE) (tr : AA) : AA := fun σ h R => ta σ h fun x h1 => tr σ h1 fun xs h2 => R (x :: xs) h2
variable {tr : AA}
theorem a_nil : AJ X [] aNil := pa_nil.imp fun τ H Q _ ⟨σ, h, R, hs, hh, q, c⟩ => c [] [] h H (.refl H) .nil hh q
theorem a_cons (ha : EJ X e ta) (hr : AJ X es tr) (hs : starEach (e :: es) X.env = (false, eval e X.env) :: starEach es X.env := by rfl) : AJ X (e :: es) (aCons ta tr) := (pa_cons ha hr hs).imp fun τ H Q _ ⟨σ, h, R, hs, hh, q, c⟩ =>
  ⟨σ, h, _, hs, hh, q, fun x v h1 H1 e1 rx hh1 q1 => ⟨σ, h1, _, hs.mono e1, hh1, q1, fun xs vs h2 H2 e2 rxs hh2 q2 => c _ _ _ _ (e1.trans e2) (.cons (rx.mono e2) rxs) hh2 q2⟩⟩
/-- a tuple, a list of written items -/
def aTup (t : AA) : AE := fun σ h R => t σ h fun xs h1 => xs.length ≤ sizeLine ∧ R (.tup xs) h1
def aLst (t : AA) : AE := fun σ h R => t σ h fun xs h1 => xs.length ≤ sizeLine ∧ ∀ p, h1 p = none → R (.ref p) (aup h1 p (.lst xs))
end
end AX

set_option Elab.async false
set_option linter.all false
set_option maxRecDepth 100000
set_option maxHeartbeats 4000000
namespace AX
open PySem PySem.Spec PyProof.Rows L2

/-! ### plain data -/
mutual
def toP : D → PyData
  | .non => .none
  | .bl b => .bool b
  | .int i => .int i
  | .str x => .str x
  | .tup xs => .tuple (toPs xs)
  | .ref _ => .dict []
def toPs : List D → List PyData
  | [] => []
  | x :: xs => toP x :: toPs xs
end
theorem toPs_map : ∀ xs : List D, toPs xs = xs.map toP
  | [] => rfl
  | x :: xs => by rw [toPs, toPs_map xs]; rfl
/-- plain to a depth: no refs, texts of signs -/
def okd : Nat → D → Bool
  | _, .non => true
  | _, .bl _ => true
  | _, .int _ => true
  | _, .str x => PyData.strOk x
  | _, .ref _ => false
  | 0, .tup _ => false
  | n + 1, .tup xs => xs.all (okd n)
theorem okd_mono : ∀ {n m : Nat} {d : D}, n ≤ m → okd n d = true → okd m d = true
  | n, m, .non, _, _ => by cases m <;> rfl
  | n, m, .bl _, _, _ => by cases m <;> rfl
  | n, m, .int _, _, _ => by cases m <;> rfl
  | n, m, .str x, _, h => by cases n <;> cases m <;> exact h
  | n, m, .ref _, _, h => by cases n <;> cases h
  | 0, _, .tup _, _, h => by cases h
  | n + 1, 0, .tup _, h, _ => absurd h (Nat.not_succ_le_zero _)
  | n + 1, m + 1, .tup xs, h, q => by
    have q' : xs.all (okd n) = true := q
    show xs.all (okd m) = true
    rw [List.all_eq_true] at q' ⊢
    exact fun x hx => okd_mono (Nat.le_of_succ_le_succ h) (q' x hx)
theorem okd_lay : ∀ (n : Nat) (d : D), okd n d = true → (toP d).canLay0 = true ∧ (toP d).depth ≤ n
  | n, .non, _ => by simp [toP, PyData.canLay0, PyData.depth]
  | n, .bl _, _ => by simp [toP, PyData.canLay0, PyData.depth]
  | n, .int _, _ => by simp [toP, PyData.canLay0, PyData.depth]
  | n, .str x, h => by
    have : PyData.strOk x = true := by cases n <;> exact h
    simp [toP, PyData.canLay0, PyData.depth, this]
  | n, .ref _, h => by cases n <;> cases h
  | 0, .tup _, h => by cases h
  | n + 1, .tup xs, h => by
    have h' : xs.all (okd n) = true := h
    have go : ∀ xs : List D, xs.all (okd n) = true → PyData.canLayAll0 (toPs xs) = true ∧ PyData.depthAll (toPs xs) ≤ n := by
      intro xs
      induction xs with
      | nil => intro _; simp [toPs, PyData.canLayAll0, PyData.depthAll]
      | cons x xs ih =>
        intro h
        rw [List.all_cons, Bool.and_eq_true] at h
        obtain ⟨a1, a2⟩ := okd_lay n x h.1
        obtain ⟨b1, b2⟩ := ih h.2
        simp only [toPs, PyData.canLayAll0, PyData.depthAll]
        exact ⟨by rw [a1, b1]; rfl, by omega⟩
    obtain ⟨a, b⟩ := go xs h'
    simp only [toP, PyData.canLay0, PyData.depth]
    exact ⟨a, by omega⟩
theorem okd_shaped {n : Nat} {d : D} (h : okd n d = true) (hn : n ≤ 64) : SeqAt.shaped (toP d) = true := by
  obtain ⟨a, b⟩ := okd_lay n d h
  show ((toP d).canLay0 && decide ((toP d).depth ≤ 64)) = true
  rw [a, decide_eq_true (by omega)]; rfl
theorem okds_shaped {n : Nat} {xs : List D} (h : xs.all (okd n) = true) (hn : n ≤ 63) : SeqAt.shaped (.list (toPs xs)) = true := by
  obtain ⟨a, b⟩ := okd_lay (n + 1) (.tup xs) h
  simp only [toP, PyData.canLay0, PyData.depth] at a b
  have e1 : (PyData.list (toPs xs)).canLay0 = true := by simp only [PyData.canLay0]; exact a
  have e2 : (PyData.list (toPs xs)).depth ≤ 64 := by simp only [PyData.depth]; omega
  show ((PyData.list (toPs xs)).canLay0 && decide ((PyData.list (toPs xs)).depth ≤ 64)) = true
  rw [e1, decide_eq_true e2]; rfl
mutual
theorem RD.dp {K : PySem.W.Frag} {H : Hp} : ∀ (n : Nat) (d : D) (v : V), okd n d = true → RD K H d v → Dp K H v (toP d)
  | _, .non, _, _, h => by cases h; rw [toP]; exact .non
  | _, .bl b, _, _, h => by cases h; rw [toP]; exact .bl b
  | _, .int i, _, _, h => by cases h; rw [toP]; exact .int i
  | _, .str x, _, _, h => by cases h; rw [toP]; exact .str x
  | n, .ref _, _, q, _ => by cases n <;> cases q
  | 0, .tup _, _, q, _ => by cases q
  | n + 1, .tup xs, _, q, h => by
    cases h with
    | tup h1 h2 => rw [toP]; exact .tup h1.sqT (RDs.dp n xs _ q h2)
theorem RDs.dp {K : PySem.W.Frag} {H : Hp} : ∀ (n : Nat) (ds : List D) (vs : List V), ds.all (okd n) = true → RDs K H ds vs → DpAll K H vs (toPs ds)
  | _, [], _, _, h => by cases h; exact .nil
  | n, d :: ds, _, q, h => by
    rw [List.all_cons, Bool.and_eq_true] at q
    cases h with
    | cons h1 h2 => rw [toPs]; exact .cons (RD.dp n d _ q.1 h1) (RDs.dp n ds _ q.2 h2)
end
/-- == -/
def D.eqv (x y : D) : Bool := PyData.eqv (toP x) (toP y)
def D.eqvs (xs ys : List D) : Bool := PyData.eqvAll (toPs xs) (toPs ys)
/-- no truths within -/
def nobl : D → Bool
  | .bl _ => false
  | .tup xs => nobls xs
  | .ref _ => false
  | _ => true
where nobls : List D → Bool
  | [] => true
  | x :: xs => nobl x && nobls xs
mutual
theorem eqv_eq : ∀ (x y : D), nobl x = true → nobl y = true → D.eqv x y = decide (x = y)
  | .bl _, _, h, _ => by simp [nobl] at h
  | .ref _, _, h, _ => by simp [nobl] at h
  | .non, y, _, h => by cases y <;> simp [nobl] at h <;> simp [D.eqv, toP, PyData.eqv]
  | .int i, y, _, h => by cases y <;> simp [nobl] at h <;> simp [D.eqv, toP, PyData.eqv, Bool.beq_eq_decide_eq]
  | .str i, y, _, h => by cases y <;> simp [nobl] at h <;> simp [D.eqv, toP, PyData.eqv, Bool.beq_eq_decide_eq]
  | .tup xs, y, hx, h => by
    cases y with
    | tup ys =>
      have := eqvs_eq xs ys (by simpa [nobl] using hx) (by simpa [nobl] using h)
      show PyData.eqv (toP (.tup xs)) (toP (.tup ys)) = _
      rw [toP, toP, PyData.eqv]
      exact this.trans (by simp)
    | bl _ => simp [nobl] at h
    | ref _ => simp [nobl] at h
    | _ => simp [D.eqv, toP, PyData.eqv]
theorem eqvs_eq : ∀ (xs ys : List D), nobl.nobls xs = true → nobl.nobls ys = true → D.eqvs xs ys = decide (xs = ys)
  | [], [], _, _ => by simp [D.eqvs, toPs, PyData.eqvAll]
  | [], y :: ys, _, _ => by simp [D.eqvs, toPs, PyData.eqvAll]
  | x :: xs, [], _, _ => by simp [D.eqvs, toPs, PyData.eqvAll]
  | x :: xs, y :: ys, hx, hy => by
    simp only [nobl.nobls, Bool.and_eq_true] at hx hy
    have e1 : PyData.eqv (toP x) (toP y) = decide (x = y) := eqv_eq x y hx.1 hy.1
    have e2 : PyData.eqvAll (toPs xs) (toPs ys) = decide (xs = ys) := eqvs_eq xs ys hx.2 hy.2
    show PyData.eqvAll (toP x :: toPs xs) (toP y :: toPs ys) = _
    rw [PyData.eqvAll, e1, e2]
    by_cases h1 : x = y <;> by_cases h2 : xs = ys <;> simp [h1, h2]
end
theorem nobls_all : ∀ xs : List D, nobl.nobls xs = xs.all nobl
  | [] => rfl
  | x :: xs => by rw [nobl.nobls, nobls_all xs]; rfl

section
variable {X : Cx}
theorem lstAt {h : AH} {H : Hp} {a : Addr} {xs : List D} (hh : RH X h H) (e : h a = some (.lst xs)) : ∃ vs, H a = some (.lst vs) ∧ RDs X.K H xs vs := hh a _ e
/-- a new tuple is laid -/
theorem newTup {pins : List (Addr × Obj)} {σ : L2.St} {H : Hp} {s : Shared} {ys : List V} {us : List Value} (I : Inv X pins σ H s) (r : Vals ys us) (hz : ys.length ≤ sizeLine) :
    Inv X pins σ (upd H s.heap.objs.size (.frz { cls := .type "tuple", data := .seq us.toArray } (.tup ys))) { s with heap := s.heap.push { cls := .type "tuple", data := .seq us.toArray } } ∧ H s.heap.objs.size = none ∧
      NdT X.K (upd H s.heap.objs.size (.frz { cls := .type "tuple", data := .seq us.toArray } (.tup ys))) s.heap.objs.size ys :=
  ⟨I.laid (t' := s.toks) (fun b ob q => Heap.get?_push_of_some _ q) (Nat.le_refl _) ⟨Heap.get?_push_size _ rfl, hz, us, r, ⟨_, Heap.get?_push_size _ rfl, rfl, _, rfl⟩⟩, I.hok.fresh (Nat.le_refl _), .inl ⟨_, upd_same, rfl⟩⟩
/-! ### == != -/
def rEqB (f : Bool → Bool) : A2 := fun x y h R => match x, y with
  | .ref a, .ref b => ∃ xs ys, h a = some (.lst xs) ∧ h b = some (.lst ys) ∧ xs.all (okd 60) = true ∧ ys.all (okd 60) = true ∧ R (.bl (f (D.eqvs xs ys))) h
  | x, y => okd 60 x = true ∧ okd 60 y = true ∧ R (.bl (f (D.eqv x y))) h
theorem eq_core (f : Bool → Bool) {x y : V} {dx dy : D} {h : AH} {H : Hp} {R : DK} {Q : VK} (rx : RD X.K H dx x) (ry : RD X.K H dy y) (hh : RH X h H) (q : rEqB f dx dy h R) (c : Cont X H R Q) :
    ∃ d e, Dp X.K H x d ∧ Dp X.K H y e ∧ SeqAt.shaped d = true ∧ SeqAt.shaped e = true ∧ Q (.bl (f (PyData.eqv d e))) H := by
  by_cases hx : ∃ a, dx = .ref a
  · by_cases hy : ∃ b, dy = .ref b
    · obtain ⟨a, rfl⟩ := hx
      obtain ⟨b, rfl⟩ := hy
      obtain ⟨xs, ys, ea, eb, o1, o2, q⟩ := q
      obtain ⟨vs, e1, r1⟩ := lstAt hh ea
      obtain ⟨ws, e2, r2⟩ := lstAt hh eb
      cases rx; cases ry
      exact ⟨_, _, .lst (.of e1) (RDs.dp 60 _ _ o1 r1), .lst (.of e2) (RDs.dp 60 _ _ o2 r2), okds_shaped o1 (by decide), okds_shaped o2 (by decide), c _ _ _ _ (.refl H) (.bl _) hh (by rw [PyData.eqv]; exact q)⟩
    · have q' : okd 60 dx = true ∧ okd 60 dy = true ∧ R (.bl (f (D.eqv dx dy))) h := by
        obtain ⟨a, rfl⟩ := hx
        cases dy <;> first | exact q | exact absurd ⟨_, rfl⟩ hy
      exact ⟨_, _, RD.dp 60 _ _ q'.1 rx, RD.dp 60 _ _ q'.2.1 ry, okd_shaped q'.1 (by decide), okd_shaped q'.2.1 (by decide), c _ _ _ _ (.refl H) (.bl _) hh q'.2.2⟩
  · have q' : okd 60 dx = true ∧ okd 60 dy = true ∧ R (.bl (f (D.eqv dx dy))) h := by
      cases dx <;> first | exact q | exact absurd ⟨_, rfl⟩ hx | (cases dy <;> exact q)
    exact ⟨_, _, RD.dp 60 _ _ q'.1 rx, RD.dp 60 _ _ q'.2.1 ry, okd_shaped q'.1 (by decide), okd_shaped q'.2.1 (by decide), c _ _ _ _ (.refl H) (.bl _) hh q'.2.2⟩
abbrev rEq : A2 := rEqB id
abbrev rNe : A2 := rEqB not
theorem o_eq (hu : X.A.units + 64 < cLine) : OJ X (compareOp .Eq) rEq := (op_eqD hu).imp fun x y H Q _ ⟨dx, dy, h, R, rx, ry, hh, q, c⟩ => eq_core id rx ry hh q c
theorem o_ne (hu : X.A.units + 64 < cLine) : OJ X (compareOp .NotEq) rNe := (op_neD hu).imp fun x y H Q _ ⟨dx, dy, h, R, rx, ry, hh, q, c⟩ => eq_core not rx ry hh q c

/-! ### ints -/
def rI2 (C : Int → Int → Prop) (g : Int → Int → D) : A2 := fun x y h R => match x, y with
  | .int i, .int j => C i j ∧ R (g i j) h
  | _, _ => False
theorem o_int {f : Value → Value → Sem Value} {C : Int → Int → Prop} {g : Int → Int → V} {g' : Int → Int → D} (h : OpR X f (rI C g)) (r : ∀ i j H, RD X.K H (g' i j) (g i j)) : OJ X f (rI2 C g') :=
  h.imp fun x y H Q _ ⟨dx, dy, h, R, rx, ry, hh, q, c⟩ => by
    cases dx <;> first | exact False.elim q | skip
    cases dy <;> first | exact False.elim q | skip
    cases rx; cases ry
    exact ⟨_, _, rfl, rfl, q.1, c _ _ _ _ (.refl H) (r _ _ _) hh q.2⟩
theorem o_int0 {f : Value → Value → Sem Value} {g : Int → Int → V} {g' : Int → Int → D} (h : OpR X f (rI0 g)) (r : ∀ i j H, RD X.K H (g' i j) (g i j)) : OJ X f (rI2 (fun _ _ => True) g') :=
  h.imp fun x y H Q _ ⟨dx, dy, h, R, rx, ry, hh, q, c⟩ => by
    cases dx <;> first | exact False.elim q | skip
    cases dy <;> first | exact False.elim q | skip
    cases rx; cases ry
    exact ⟨_, _, rfl, rfl, c _ _ _ _ (.refl H) (r _ _ _) hh q.2⟩
theorem o_sub : OJ X (binaryOp .Sub) (rI2 (fun _ _ => True) fun i j => .int (i - j)) := o_int0 op_sub fun _ _ _ => .int _
theorem o_fdiv : OJ X (binaryOp .FloorDiv) (rI2 CDivN fun i j => .int (i.fdiv j)) := o_int op_fdivN fun _ _ _ => .int _
theorem o_mod : OJ X (binaryOp .Mod) (rI2 (fun _ j => j ≠ 0) fun i j => .int (i.fmod j)) := o_int op_modN fun _ _ _ => .int _
theorem o_pow : OJ X (binaryOp .Pow) (rI2 CPow fun i j => .int (i ^ j.toNat)) := o_int op_pow fun _ _ _ => .int _
theorem o_mulI : OJ X (binaryOp .Mult) (rI2 CMul fun i j => .int (i * j)) := o_int op_mul fun _ _ _ => .int _
/-- + of ints, texts, tuples, lists -/
def rAdd : A2 := fun x y h R => match x, y with
  | .int i, .int j => R (.int (i + j)) h
  | .str a, .str b => a.length + b.length ≤ sizeLine ∧ R (.str (a ++ b)) h
  | .tup xs, .tup ys => xs.length + ys.length ≤ sizeLine ∧ R (.tup (xs ++ ys)) h
  | .ref a, .ref b => ∃ xs ys, h a = some (.lst xs) ∧ h b = some (.lst ys) ∧ xs.length + ys.length ≤ sizeLine ∧ ∀ p, h p = none → R (.ref p) (aup h p (.lst (xs ++ ys)))
  | _, _ => False
theorem o_add : OJ X (binaryOp .Add) rAdd := by
  intro pins s σ H x y v u Q I rx ry ⟨dx, dy, h, R, hx, hy, hh, q, c⟩
  cases dx <;> cases dy <;> first | exact False.elim q | skip
  · cases hx; cases hy
    exact op_add pins s σ H _ _ v u Q I rx ry ⟨_, _, rfl, rfl, c _ _ _ _ (.refl H) (.int _) hh q⟩
  · cases hx; cases hy
    exact op_add_str pins s σ H _ _ v u Q I rx ry ⟨_, _, rfl, rfl, q.1, c _ _ _ _ (.refl H) (.str _) hh q.2⟩
  · cases hx with
    | tup s1 r1 =>
      cases hy with
      | tup s2 r2 =>
        obtain ⟨its, k1, p1, _⟩ := I.tuple s1.sqT
        obtain ⟨its2, k2, p2, _⟩ := I.tuple s2.sqT
        cases rx; cases ry
        by_cases hx : its = []
        · subst hx
          cases k1; cases r1
          exact cat_tup0 p1 p2 ⟨.ref _, H, I, rfl, c _ _ _ _ (.refl H) (.tup s2 r2) hh q.2⟩
        · refine HT.cat_tup p1 p2 hx (fun z => ?_) (fun z => ?_) (by rw [← k1.length, ← k2.length, ← r1.length, ← r2.length]; exact q.1)
          · have := k2.nil_iff.mp z
            subst this; cases r2
            exact ⟨.ref _, H, I, rfl, c _ _ _ _ (.refl H) (.tup s1 r1) hh (by have := q.2; rwa [List.append_nil] at this)⟩
          · obtain ⟨I2, hp, nd⟩ := newTup I (k1.append k2) (by rw [List.length_append, ← r1.length, ← r2.length]; exact q.1)
            exact ⟨.ref _, _, I2, rfl, c _ _ _ _ (.new hp) (.tup nd ((r1.append r2).mono (.new hp))) (hh.junk hp) q.2⟩
  · cases hx; cases hy
    obtain ⟨xs, ys, ea, eb, hz, q⟩ := q
    obtain ⟨vs, e1, r1⟩ := lstAt hh ea
    obtain ⟨ws, e2, r2⟩ := lstAt hh eb
    refine op_cat pins s σ H _ _ v u Q I rx ry ⟨_, _, _, _, rfl, rfl, e1, e2, by rw [← r1.length, ← r2.length]; exact hz, fun p hp => ?_⟩
    exact c _ _ _ _ (.new hp) (.ref p) (hh.new (o' := .lst (xs ++ ys)) hp ⟨_, upd_same, (r1.append r2).mono (.new hp)⟩) (q p (hh.free hp))
/-- < <= > >= of ints -/
abbrev rLtI : A2 := rI2 (fun _ _ => True) fun i j => .bl (decide (i < j))
theorem o_ltI : OJ X (compareOp .Lt) rLtI := o_int0 op_lt fun _ _ _ => .bl _
theorem o_leI : OJ X (compareOp .LtE) (rI2 (fun _ _ => True) fun i j => .bl (decide (i ≤ j))) := o_int0 op_le fun _ _ _ => .bl _
theorem o_gtI : OJ X (compareOp .Gt) (rI2 (fun _ _ => True) fun i j => .bl (decide (j < i))) := o_int0 op_gt fun _ _ _ => .bl _
theorem o_geI : OJ X (compareOp .GtE) (rI2 (fun _ _ => True) fun i j => .bl (decide (j ≤ i))) := o_int0 op_ge fun _ _ _ => .bl _
/-- < of ints, of tuples of ints -/
def ints? : List D → Option (List Int)
  | [] => some []
  | .int i :: r => (ints? r).map (i :: ·)
  | _ => none
theorem ints?_some : ∀ {xs : List D} {ns : List Int}, ints? xs = some ns → xs = ns.map D.int
  | [], ns, h => by simp [ints?] at h; subst h; rfl
  | .int i :: r, ns, h => by
    simp only [ints?, Option.map_eq_some_iff] at h
    obtain ⟨ms, h1, rfl⟩ := h
    rw [ints?_some h1]; rfl
  | .non :: _, _, h => by simp [ints?] at h
  | .bl _ :: _, _, h => by simp [ints?] at h
  | .str _ :: _, _, h => by simp [ints?] at h
  | .tup _ :: _, _, h => by simp [ints?] at h
  | .ref _ :: _, _, h => by simp [ints?] at h
theorem ints?_map : ∀ ns : List Int, ints? (ns.map D.int) = some ns
  | [] => rfl
  | n :: ns => by simp [ints?, ints?_map ns]
def rLt : A2 := fun x y h R => match x, y with
  | .int i, .int j => R (.bl (decide (i < j))) h
  | .str i, .str j => R (.bl (decide (i.cps.toList < j.cps.toList))) h
  | .tup xs, .tup ys => match ints? xs, ints? ys with
    | some ns, some ms => R (.bl (HT.lexLt ns ms)) h
    | _, _ => False
  | _, _ => False
theorem o_lt (hu : X.A.units < cLine) : OJ X (compareOp .Lt) rLt := by
  intro pins s σ H x y v u Q I rx ry ⟨dx, dy, h, R, hx, hy, hh, q, c⟩
  cases dx <;> cases dy <;> first | exact False.elim q | skip
  · cases hx; cases hy
    exact op_lt pins s σ H _ _ v u Q I rx ry ⟨_, _, rfl, rfl, c _ _ _ _ (.refl H) (.bl _) hh q⟩
  · cases hx; cases hy
    exact op_lt_str pins s σ H _ _ v u Q I rx ry ⟨_, _, rfl, rfl, c _ _ _ _ (.refl H) (.bl _) hh q⟩
  · rename_i xs ys
    have q2 : (match ints? xs, ints? ys with
      | some ns, some ms => R (.bl (HT.lexLt ns ms)) h
      | _, _ => False) := q
    cases e1 : ints? xs with
    | none => rw [e1] at q2; exact False.elim q2
    | some ns =>
      cases e2 : ints? ys with
      | none => rw [e1, e2] at q2; exact False.elim q2
      | some ms =>
        rw [e1, e2] at q2
        have e1 := ints?_some e1
        have e2 := ints?_some e2
        subst e1 e2
        cases hx with
        | tup s1 r1 =>
          cases hy with
          | tup s2 r2 =>
            rw [r1.ints] at s1
            rw [r2.ints] at s2
            exact op_ltT hu pins s σ H _ _ v u Q I rx ry ⟨_, _, ns, ms, rfl, rfl, s1.sqT, s2.sqT, c _ _ _ _ (.refl H) (.bl _) hh q2⟩
/-- is None -/
def rIsN (f : Bool → Bool) : A2 := fun x y h R => y = .non ∧ R (.bl (f (decide (x = .non)))) h
theorem RD.non_iff {K : PySem.W.Frag} {H : Hp} {d : D} {v : V} (r : RD K H d v) : decide (v = .non) = decide (d = .non) := by cases r <;> simp
theorem o_is : OJ X (compareOp .Is) (rIsN id) := (op_isN).imp fun x y H Q _ ⟨dx, dy, h, R, rx, ry, hh, q, c⟩ => by
  obtain ⟨rfl, q⟩ := q
  cases ry
  exact ⟨rfl, by rw [rx.non_iff]; exact c _ _ _ _ (.refl H) (.bl _) hh q⟩
theorem o_isnot : OJ X (compareOp .IsNot) (rIsN not) := (op_notN).imp fun x y H Q _ ⟨dx, dy, h, R, rx, ry, hh, q, c⟩ => by
  obtain ⟨rfl, q⟩ := q
  cases ry
  exact ⟨rfl, by rw [rx.non_iff]; exact c _ _ _ _ (.refl H) (.bl _) hh q⟩
end
end AX

set_option Elab.async false
set_option linter.all false
set_option maxRecDepth 100000
set_option maxHeartbeats 4000000
namespace AX
open PySem PySem.Spec PyProof.Rows L2
section
variable {X : Cx} {a b c e : Expr} {es : List Expr} {ta tb tc : AE} {t : AA} {pos : Pos}
theorem e_tup {x1} (h : AJ X es t) : EJ X (.Tuple es x1 pos) (aTup t) := by
  refine ⟨fun pins s τ H Q I ⟨σ, h', R, hs, hh, q, c⟩ => ?_⟩
  refine wpAny_Tuple_spliced (thn (h.run pos pins s τ H (fun vs H1 => ∃ ds h1, HExt H H1 ∧ RDs X.K H1 ds vs ∧ RH X h1 H1 ∧ ds.length ≤ sizeLine ∧ R (.tup ds) h1) I ⟨σ, h', _, hs, hh, q, fun ds vs h1 H1 e1 rds hh1 q1 => ⟨ds, h1, e1, rds, hh1, q1⟩⟩) fun us s1 ⟨xs, H1, I1, r, ds, h1, e1, rds, hh1, z, q⟩ => ⟨by rw [← r.length, ← rds.length]; exact z, ?_⟩)
  obtain ⟨I2, hp, nd⟩ := newTup I1 r (by rw [← rds.length]; exact z)
  exact ⟨.ref _, _, I2, rfl, c _ _ _ _ (e1.trans (.new hp)) (.tup nd (rds.mono (.new hp))) (hh1.junk hp) q⟩
theorem e_lst (h : AJ X es t) : EJ X (.List es pos) (aLst t) := (pe_lst h).imp fun τ H Q _ ⟨σ, h, R, hs, hh, q, c⟩ =>
  ⟨σ, h, _, hs, hh, q, fun ds vs h1 H1 e1 rds hh1 ⟨hz, q1⟩ => ⟨by rw [← rds.length]; exact hz, fun p hp => c _ _ _ _ (e1.trans (.new hp)) (.ref p) (hh1.new (o' := .lst ds) hp ⟨_, upd_same, rds.mono (.new hp)⟩) (q1 p (hh1.free hp))⟩⟩

/-! ### subscripts -/
theorem atI_rds {K : PySem.W.Frag} {H : Hp} {ds : List D} {vs : List V} {i : Int} {d : D} (r : RDs K H ds vs) (e : atI ds i = some d) : ∃ v, atI vs i = some v ∧ RD K H d v := by
  unfold atI at e ⊢
  rw [← r.length]
  cases q : ixN ds.length i with
  | none => rw [q] at e; cases e
  | some j =>
    rw [q] at e
    obtain ⟨v, e1, e2⟩ := r.get e
    exact ⟨v, e1, e2⟩
def rIx : A2 := fun x y h R => match x, y with
  | .tup xs, .int i => (match atI xs i with
    | some d => R d h
    | none => False)
  | .str z, .int i => z.length ≤ sizeLine ∧ (match atI z.cps.toList i with
    | some c => R (.str ⟨#[c]⟩) h
    | none => False)
  | .ref a, .int i => (match h a with
    | some (.lst xs) => (match atI xs i with
      | some d => R d h
      | none => False)
    | _ => False)
  | _, _ => False
theorem ix_ok : IxR X (upR X rIx) := by
  intro value slice pins s σ H x y v u Q I rx ry ⟨dx, dy, h, R, hx, hy, hh, q, c⟩ hs
  refine ix_seq value slice pins s σ H x y v u Q I rx ry ?_ hs
  cases dx <;> cases dy <;> first | exact False.elim q | skip
  · cases hx; cases hy
    obtain ⟨hz, q⟩ := q
    revert q
    split
    · rename_i e; intro q
      exact .inr (.inr ⟨_, _, _, rfl, rfl, hz, e, c _ _ _ _ (.refl H) (.str _) hh q⟩)
    · exact False.elim
  · cases hy
    cases hx with
    | tup s1 r1 =>
      revert q
      unfold rIx
      simp only
      split
      · rename_i e; intro q
        obtain ⟨v, e1, e2⟩ := atI_rds r1 e
        exact .inr (.inl ⟨_, _, _, _, rfl, rfl, s1.sqT, e1, c _ _ _ _ (.refl H) e2 hh q⟩)
      · exact False.elim
  · cases hx; cases hy
    revert q
    unfold rIx
    simp only
    split
    · rename_i e
      obtain ⟨vs, e1, r1⟩ := lstAt hh e
      split
      · rename_i e2; intro q
        obtain ⟨v, e3, e4⟩ := atI_rds r1 e2
        exact .inl ⟨_, _, _, _, rfl, rfl, .inl (.inl e1), e3, c _ _ _ _ (.refl H) e4 hh q⟩
      · exact False.elim
    · exact False.elim
theorem e_ix (ha : EJ X a ta) (hb : EJ X b tb) (hs : PlainIx b := by intro _ _; rfl) : EJ X (.Subscript a b pos) (aOp rIx ta tb) := (pe_ix ix_ok ha hb hs).imp fun _ _ _ _ q => up_op q

/-! ### slices -/
abbrev AO := ASt → AH → (Option Int → AH → Prop) → Prop
def upO (X : Cx) (t : AO) : TO := fun τ H Q => ∃ σ h R, RS X.K H σ τ ∧ RH X h H ∧ t σ h R ∧ ∀ o h' H', HExt H H' → RH X h' H' → R o h' → Q o H'
abbrev PJ (X : Cx) (e : Option Expr) (t : AO) : Prop := PO X e (upO X t)
def aNoPart : AO := fun _ h R => R none h
def aPart (t : AE) : AO := fun σ h R => t σ h fun x h1 => match x with
  | .int i => R (some i) h1
  | _ => False
theorem PO.imp {e : Option Expr} {t t' : TO} (h : PO X e t') (f : ∀ τ H Q, HExt X.H_0 H → t τ H Q → t' τ H Q) : PO X e t := ⟨fun pins s σ H Q I q => h.run pins s σ H Q I (f _ _ _ (ext0 I) q)⟩
theorem p_none : PJ X none aNoPart := PO.imp po_none fun τ H Q _ ⟨σ, h, R, hs, hh, q, c⟩ => c _ h H (.refl H) hh q
theorem p_some (he : EJ X e ta) : PJ X (some e) (aPart ta) := PO.imp (po_some he) fun τ H Q _ ⟨σ, h, R, hs, hh, q, c⟩ => ⟨σ, h, _, hs, hh, q, fun d v h1 H1 e1 rd hh1 q1 => by
  cases d <;> first | exact False.elim q1 | skip
  cases rd
  exact ⟨_, rfl, c _ _ _ e1 hh1 q1⟩⟩
def cutD (xs : List D) (lo hi : Option Int) : List D := (xs.drop (HT.sIx xs.length 0 lo)).take (HT.sIx xs.length xs.length hi - HT.sIx xs.length 0 lo)
theorem cut_rds {K : PySem.W.Frag} {H : Hp} {ds : List D} {vs : List V} {lo hi : Option Int} (r : RDs K H ds vs) : RDs K H (cutD ds lo hi) (cutV vs lo hi) := by
  unfold cutD cutV
  rw [r.length]
  exact (r.drop _).take _
theorem cut_vals {vs : List V} {its : List Value} {lo hi : Option Int} (r : Vals vs its) : Vals (cutV vs lo hi) ((its.drop (HT.sIx vs.length 0 lo)).take (HT.sIx vs.length vs.length hi - HT.sIx vs.length 0 lo)) :=
  (r.drop _).take _
def rSl (x : D) (lo hi : Option Int) (h : AH) (R : DK) : Prop := match x with
  | .tup xs => R (.tup (cutD xs lo hi)) h
  | .ref a => (match h a with
    | some (.lst xs) => ∀ p, h p = none → R (.ref p) (aup h p (.lst (cutD xs lo hi)))
    | _ => False)
  | _ => False
theorem cut_all (xs : List D) (lo hi : Option Int) (e : HT.sIx xs.length 0 lo = 0 ∧ HT.sIx xs.length xs.length hi = xs.length) : cutD xs lo hi = xs := by
  unfold cutD; rw [e.1, e.2]; simp
def upSl (X : Cx) (r : D → Option Int → Option Int → AH → DK → Prop) : V → Option Int → Option Int → Hp → VK → Prop := fun x lo hi H Q => ∃ d h R, RD X.K H d x ∧ RH X h H ∧ r d lo hi h R ∧ Cont X H R Q
theorem sl_ok : SlR X (upSl X rSl) := by
  intro pins s σ H x v vl vu lo hi sl Q I rx hs pl pu ⟨d, h, R, hx, hh, q, c⟩
  cases d <;> first | exact False.elim q | skip
  · cases hx with
    | tup s1 r1 =>
      unfold rSl at q; simp only at q
      cases rx
      obtain ⟨its, r, ht, hz⟩ := I.tuple s1.sqT
      have hlen := (show its.toArray.size = its.length from List.size_toArray).trans r.length.symm
      have hlen2 := r1.length
      by_cases hw : HT.sIx its.toArray.size 0 lo = 0 ∧ HT.sIx its.toArray.size its.toArray.size hi = its.toArray.size
      · refine ⟨"tuple", _, PyProof.Rows.slot_tuple_getitem.lookup, ht.typeIs, ?_⟩
        refine getItem_tuple_whole ht hs pl pu hw ⟨.ref _, H, I, rfl, ?_⟩
        rw [hlen, ← hlen2] at hw
        have := cut_all _ lo hi hw
        rw [this] at q
        exact c _ _ _ _ (.refl H) (.tup s1 r1) hh q
      · refine ⟨"tuple", _, PyProof.Rows.slot_tuple_getitem.lookup, ht.typeIs, ?_⟩
        refine HT.getItem_tuple_cut ht hs pl pu hw ?_ (by rw [hlen]; exact hz)
        rw [hlen]
        obtain ⟨I2, hp, nd⟩ := newTup I (cut_vals r) (Nat.le_trans (cutV_length _ lo hi) hz)
        exact ⟨.ref _, _, I2, rfl, c _ _ _ _ (.new hp) (.tup nd ((cut_rds r1).mono (.new hp))) (hh.junk hp) q⟩
  · cases hx
    revert q
    unfold rSl
    simp only
    split
    · rename_i e; intro q
      obtain ⟨vs, e1, r1⟩ := lstAt hh e
      exact sl_list pins s σ H _ v vl vu lo hi sl Q I rx hs pl pu ⟨_, _, rfl, .inl (.inl e1), fun p hp => c _ _ _ _ (.new hp) (.ref p) (hh.new (o' := .lst (cutD _ lo hi)) hp ⟨_, upd_same, (cut_rds r1).mono (.new hp)⟩) (q p (hh.free hp))⟩
    · exact False.elim
def aSl (te : AE) (tl th : AO) : AE := fun σ h R => te σ h fun x h1 => tl σ h1 fun l h2 => th σ h2 fun u h3 => rSl x l u h3 R
theorem e_sl {lo hi : Option Expr} {tl th : AO} {p2 : Pos} (ha : EJ X a ta) (hl : PJ X lo tl) (hu : PJ X hi th) : EJ X (.Subscript a (.Slice lo hi none p2) pos) (aSl ta tl th) :=
  (pe_slice sl_ok ha hl hu).imp fun τ H Q _ ⟨σ, h, R, hs, hh, q, c⟩ => ⟨σ, h, _, hs, hh, q, fun x v h1 H1 e1 rx hh1 q1 =>
    ⟨σ, h1, _, hs.mono e1, hh1, q1, fun l h2 H2 e2 hh2 q2 => ⟨σ, h2, _, (hs.mono e1).mono e2, hh2, q2, fun u h3 H3 e3 hh3 q3 => ⟨x, h3, R, (rx.mono e2).mono e3, hh3, q3, ((c.ext e1).ext e2).ext e3⟩⟩⟩⟩

/-! ### calls of builtins -/
abbrev AC := List D → AH → DK → Prop
def upC (X : Cx) (r : AC) : List V → Hp → VK → Prop := fun xs H Q => ∃ ds h R, RDs X.K H ds xs ∧ RH X h H ∧ r ds h R ∧ Cont X H R Q
abbrev CJ (X : Cx) (f : Value) (r : AC) : Prop := CallR X f (upC X r)
theorem _root_.L2.CallR.imp {f : Value} {r r' : List V → Hp → VK → Prop} (h : CallR X f r) (g : ∀ x H Q, r' x H Q → r x H Q) : CallR X f r' := fun pins s σ H xs us Q I rv q => h pins s σ H xs us Q I rv (g _ _ _ q)
def aCB (r : AC) (t : AA) : AE := fun σ h R => t σ h fun ds h1 => r ds h1 R
theorem up_cb {r : AC} {τ : L2.St} {H : Hp} {Q : VK} (q : upE X (aCB r t) τ H Q) : tCB (upC X r) (upA X t) τ H Q := by
  obtain ⟨σ, h, R, hs, hh, q, c⟩ := q
  exact ⟨σ, h, _, hs, hh, q, fun ds vs h1 H1 e1 rds hh1 q1 => ⟨ds, h1, R, rds, hh1, q1, c.ext e1⟩⟩
variable {x : Str} {p : Pos} {id T : String} {r : AC}
theorem e_call (hc : CJ X (.builtin id) r) (hg : Gl X x) (hm : X.mg x = none) (hv : bootBuiltins x = some (.builtin id)) (ha : AJ X (e :: es) t) (hn : x ≠ "__name__" := by decide) (hdb : (x == ("__debug__" : Str)) = false := by decide)
    (he : starEach (e :: es) X.env = (false, eval e X.env) :: starEach es X.env := by rfl) (hpl : (backTo pos (starEach es X.env)).any (·.1) = false := by rfl) : EJ X (.Call (.Name x p) (e :: es) [] pos) (aCB r t) :=
  (pe_callB hc hg hm hv ha hn hdb he hpl).imp fun _ _ _ _ q => up_cb q
theorem e_callT (hc : CJ X (.type T) r) (hg : Gl X x) (hm : X.mg x = none) (hv : bootBuiltins x = some (.type T)) (ha : AJ X (e :: es) t) (hn : x ≠ "__name__" := by decide) (hdb : (x == ("__debug__" : Str)) = false := by decide)
    (he : starEach (e :: es) X.env = (false, eval e X.env) :: starEach es X.env := by rfl) (hpl : (backTo pos (starEach es X.env)).any (·.1) = false := by rfl) : EJ X (.Call (.Name x p) (e :: es) [] pos) (aCB r t) :=
  (pe_callTy hc hg hm hv ha hn hdb he hpl).imp fun _ _ _ _ q => up_cb q
/-- len -/
def cLen : AC := fun ds h R => match ds with
  | [.tup xs] => R (.int xs.length) h
  | [.str z] => z.length ≤ sizeLine ∧ R (.int z.length) h
  | [.ref a] => (match h a with
    | some (.lst xs) => R (.int xs.length) h
    | some (.dK kvs) => R (.int kvs.length) h
    | _ => False)
  | _ => False
theorem call_len : CJ X (.builtin "len") cLen := by
  intro pins s σ H xs us Q I rv ⟨ds, h, R, rds, hh, q, c⟩
  match ds, q with
  | [.tup xs], q =>
    cases rds with
    | cons r1 r2 =>
      cases r2
      cases r1 with
      | tup s1 r1 => exact call_len_seq pins s σ H _ us Q I rv ⟨_, _, rfl, .inr s1.sqT, by rw [← r1.length]; exact c _ _ _ _ (.refl H) (.int _) hh q⟩
  | [.str z], q =>
    cases rds with
    | cons r1 r2 =>
      cases r2; cases r1
      exact call_len_str pins s σ H _ us Q I rv ⟨_, rfl, q.1, c _ _ _ _ (.refl H) (.int _) hh q.2⟩
  | [.ref a], q =>
    cases rds with
    | cons r1 r2 =>
      cases r2; cases r1
      revert q
      unfold cLen
      simp only
      split
      · rename_i e; intro q
        obtain ⟨vs, e1, r1⟩ := lstAt hh e
        exact call_len_seq pins s σ H _ us Q I rv ⟨_, _, rfl, .inl (.inl (.inl e1)), by rw [← r1.length]; exact c _ _ _ _ (.refl H) (.int _) hh q⟩
      · rename_i kvs e; intro q
        obtain ⟨ws, e1, e2, r1⟩ := hh a _ e
        have hl : ws.length = kvs.length := by simpa using congrArg List.length e2
        cases rv with
        | cons ru rr =>
          cases rr
          cases ru
          refine d_len I (.inl e1) fun t s' I' => ⟨.int kvs.length, H, I', ⟨t, by rw [hl]⟩, c _ _ _ _ (.refl H) (.int _) hh q⟩
      · exact False.elim
/-- isinstance, a builtin type -/
def tyD (h : AH) : D → Option String
  | .non => some "NoneType"
  | .bl _ => some "bool"
  | .int _ => some "int"
  | .str _ => some "str"
  | .tup _ => some "tuple"
  | .ref a => match h a with
    | some (.lst _) => some "list"
    | some (.dK _) => some "dict"
    | _ => none
def isTy (t T : String) : Bool := t == T || (t == "bool" && T == "int")
theorem ty_of {H : Hp} {h : AH} {d : D} {v : V} {ty : String} (hh : RH X h H) (r : RD X.K H d v) (e : tyD h d = some ty) : TyX X.K H v (.type ty) := by
  cases r with
  | non => cases e; exact .base .non
  | bl b => cases e; exact .base (.bl _)
  | int b => cases e; exact .base (.int _)
  | str b => cases e; exact .base (.str _)
  | tup s1 r1 =>
    cases e
    rcases s1 with ⟨o, s1, _⟩ | ⟨o, its, n, h1, h2, _⟩
    · exact .fTuple s1
    · exact .kTuple h1 h2
  | ref a =>
    unfold tyD at e
    simp only at e
    split at e
    · rename_i q
      obtain ⟨vs, e1, r1⟩ := lstAt hh q
      cases e; exact .base (.lst e1)
    · rename_i q
      obtain ⟨ws, e1, _⟩ := hh a _ q
      cases e; exact .base (.dK e1)
    · cases e
def aIsi (T : String) (te : AE) : AE := fun σ h R => te σ h fun x h1 => ∃ ty, tyD h1 x = some ty ∧ R (.bl (isTy ty T)) h1
theorem kit_ty (K : PySem.W.Frag) {T : String} (hT : T = "int" ∨ T = "bool" ∨ T = "str" ∨ T = "tuple") {ty : String} {h : AH} {d : D} (e : tyD h d = some ty) : PySem.W.kitOne K (.type ty) (.type T) = some (isTy ty T) := by
  have h6 : ty = "NoneType" ∨ ty = "bool" ∨ ty = "int" ∨ ty = "str" ∨ ty = "tuple" ∨ ty = "list" ∨ ty = "dict" := by
    cases d <;> simp only [tyD, Option.some.injEq] at e
    · simp [← e]
    · simp [← e]
    · simp [← e]
    · simp [← e]
    · simp [← e]
    · split at e <;> simp_all
  rcases hT with rfl | rfl | rfl | rfl <;> rcases h6 with rfl | rfl | rfl | rfl | rfl | rfl | rfl <;> with_unfolding_all (first | rfl | decide +kernel)
end
end AX

set_option Elab.async false
set_option linter.all false
set_option maxRecDepth 100000
set_option maxHeartbeats 4000000
namespace AX
open PySem PySem.Spec PyProof.Rows L2
/-- the items of a list or tuple -/
def seqOf (h : AH) : D → Option (List D)
  | .tup xs => some xs
  | .ref a => match h a with
    | some (.lst xs) => some xs
    | _ => none
  | _ => none
theorem seqOf_tup {h : AH} {xs : List D} : seqOf h (.tup xs) = some xs := rfl
theorem seqOf_ref {h : AH} {a : Addr} {xs : List D} (e : h a = some (.lst xs)) : seqOf h (.ref a) = some xs := by unfold seqOf; simp only; rw [e]
section
variable {X : Cx}
/-- it is a list or tuple of the heap -/
theorem seq_at {H : Hp} {h : AH} {x : D} {v : V} {xs : List D} (hh : RH X h H) (r : RD X.K H x v) (e : seqOf h x = some xs) : ∃ a vs, v = .ref a ∧ RDs X.K H xs vs ∧ ((x = .tup xs ∧ NdT X.K H a vs) ∨ (x = .ref a ∧ h a = some (.lst xs) ∧ H a = some (.lst vs))) := by
  cases r with
  | tup s1 r1 => cases e; exact ⟨_, _, rfl, r1, .inl ⟨rfl, s1⟩⟩
  | ref a =>
    unfold seqOf at e
    simp only at e
    split at e
    · rename_i q
      cases e
      obtain ⟨vs, e1, r1⟩ := lstAt hh q
      exact ⟨_, _, rfl, r1, .inr ⟨rfl, q, e1⟩⟩
    · cases e
  | _ => cases e
theorem seq_sq {H : Hp} {h : AH} {x : D} {v : V} {xs : List D} (hh : RH X h H) (r : RD X.K H x v) (e : seqOf h x = some xs) : ∃ a vs, v = .ref a ∧ RDs X.K H xs vs ∧ (SqL X.K H a vs ∨ SqT X.K H a vs) := by
  obtain ⟨a, vs, h1, h2, h3⟩ := seq_at hh r e
  rcases h3 with ⟨_, h3⟩ | ⟨_, _, h3⟩
  · exact ⟨a, vs, h1, h2, .inr h3.sqT⟩
  · exact ⟨a, vs, h1, h2, .inl (.inl (.inl h3))⟩
/-- its object -/
theorem seq_obj {pins : List (Addr × Obj)} {σ : L2.St} {H : Hp} {s : Shared} {h : AH} {x : D} {v : V} {u : Value} {xs : List D} (I : Inv X pins σ H s) (hh : RH X h H) (r : RD X.K H x v) (rv : RelV v u) (e : seqOf h x = some xs) :
    ∃ a vs its T o n, v = .ref a ∧ u = .ref a ∧ RDs X.K H xs vs ∧ Vals vs its ∧ (T = "list" ∨ T = "tuple") ∧ s.heap.get? a = some o ∧ o.cls = .type T ∧ o.data = .seq its.toArray n ∧ its.length ≤ sizeLine := by
  obtain ⟨a, vs, rfl, h2, h3⟩ := seq_sq hh r e
  cases rv
  rcases h3 with h3 | h3
  · obtain ⟨its, k, pl, hz⟩ := I.list h3
    obtain ⟨o, ho, hc, n, hd⟩ := pl.isList
    exact ⟨a, vs, its, "list", o, n, rfl, rfl, h2, k, .inl rfl, ho, hc, hd, by rw [← k.length]; exact hz⟩
  · obtain ⟨its, k, ⟨o, ho, hc, n, hd⟩, hz⟩ := I.tuple h3
    exact ⟨a, vs, its, "tuple", o, n, rfl, rfl, h2, k, .inr rfl, ho, hc, hd, by rw [← k.length]; exact hz⟩
/-- list(x) -/
def cList : AC := fun ds h R => match ds with
  | [x] => ∃ xs, seqOf h x = some xs ∧ ∀ p, h p = none → R (.ref p) (aup h p (.lst xs))
  | _ => False
theorem newLst {H : Hp} {h : AH} {R : DK} {Q : VK} {p : Addr} {xs : List D} {vs : List V} (hh : RH X h H) (hp : H p = none) (r : RDs X.K H xs vs) (c : Cont X H R Q) (q : ∀ p, h p = none → R (.ref p) (aup h p (.lst xs))) : Q (.ref p) (upd H p (.lst vs)) :=
  c _ _ _ _ (.new hp) (.ref p) (hh.new (o' := .lst xs) hp ⟨_, upd_same, r.mono (.new hp)⟩) (q p (hh.free hp))
theorem call_list : CJ X (.type "list") cList := by
  intro pins s σ H xs us Q I rv ⟨ds, h, R, rds, hh, q, c⟩
  match ds, q with
  | [x], ⟨ys, e, q⟩ =>
    cases rds with
    | cons r1 r2 =>
      cases r2
      obtain ⟨a, vs, rfl, h2, h3⟩ := seq_sq hh r1 e
      exact call_list_of pins s σ H _ us Q I rv ⟨_, _, rfl, h3, fun p hp => newLst hh hp h2 c q⟩
/-- tuple(x) -/
def cTuple : AC := fun ds h R => match ds with
  | [x] => ∃ xs, seqOf h x = some xs ∧ R (.tup xs) h
  | _ => False
theorem call_tuple : CJ X (.type "tuple") cTuple := by
  intro pins s σ H xs us Q I rv ⟨ds, h, R, rds, hh, q, c⟩
  match ds, q with
  | [x], ⟨ys, e, q⟩ =>
    cases rds with
    | cons r1 r2 =>
      cases r2
      obtain ⟨a, vs, rfl, h2, h3⟩ := seq_at hh r1 e
      cases rv with
      | cons ru rr =>
        cases rr; cases ru
        rcases h3 with ⟨rfl, h3⟩ | ⟨rfl, h3, h4⟩
        · obtain ⟨its, k, pl, hz⟩ := I.tuple h3.sqT
          exact call_tuple_same pl ⟨.ref _, H, I, rfl, c _ _ _ _ (.refl H) (.tup h3 h2) hh q⟩
        · obtain ⟨its, k, pl, hz⟩ := I.list (.inl (.inl h4))
          refine call_tuple_list pl.isList (fun h' kp => ?_) (by rw [List.size_toArray, ← k.length]; exact hz)
          have I1 : Inv X pins σ H { s with heap := h' } := I.kept (t' := s.toks) kp
          obtain ⟨I2, hp, nd⟩ := newTup I1 k hz
          exact ⟨.ref _, _, I2, rfl, c _ _ _ _ (.new hp) (.tup nd (h2.mono (.new hp))) (hh.junk hp) q⟩
/-- all, any of a list of truths -/
def bls? : List D → Option (List Bool)
  | [] => some []
  | .bl i :: r => (bls? r).map (i :: ·)
  | _ => none
theorem bls?_some : ∀ {xs : List D} {ns : List Bool}, bls? xs = some ns → xs = ns.map D.bl
  | [], ns, h => by simp [bls?] at h; subst h; rfl
  | .bl i :: r, ns, h => by
    simp only [bls?, Option.map_eq_some_iff] at h
    obtain ⟨ms, h1, rfl⟩ := h
    rw [bls?_some h1]; rfl
  | .non :: _, _, h => by simp [bls?] at h
  | .int _ :: _, _, h => by simp [bls?] at h
  | .str _ :: _, _, h => by simp [bls?] at h
  | .tup _ :: _, _, h => by simp [bls?] at h
  | .ref _ :: _, _, h => by simp [bls?] at h
theorem bls?_map : ∀ ns : List Bool, bls? (ns.map D.bl) = some ns
  | [] => rfl
  | n :: ns => by simp [bls?, bls?_map ns]
def cAll : AC := fun ds h R => match ds with
  | [.ref a] => ∃ bs : List Bool, h a = some (.lst (bs.map D.bl)) ∧ R (.bl (bs.all id)) h
  | _ => False
def cAny : AC := fun ds h R => match ds with
  | [.ref a] => ∃ bs : List Bool, h a = some (.lst (bs.map D.bl)) ∧ R (.bl (bs.any id)) h
  | _ => False
theorem call_all (hc : X.calm = true) : CJ X (.builtin "all") cAll := by
  intro pins s σ H xs us Q I rv ⟨ds, h, R, rds, hh, q, c⟩
  match ds, q with
  | [.ref a], ⟨bs, e, q⟩ =>
    cases rds with
    | cons r1 r2 =>
      cases r2; cases r1
      obtain ⟨vs, e1, r1⟩ := lstAt hh e
      rw [r1.bls] at e1
      exact cr_all hc pins s σ H _ us Q I rv ⟨_, _, rfl, .inl (.inl e1), c _ _ _ _ (.refl H) (.bl _) hh q⟩
theorem call_any (hc : X.calm = true) : CJ X (.builtin "any") cAny := by
  intro pins s σ H xs us Q I rv ⟨ds, h, R, rds, hh, q, c⟩
  match ds, q with
  | [.ref a], ⟨bs, e, q⟩ =>
    cases rds with
    | cons r1 r2 =>
      cases r2; cases r1
      obtain ⟨vs, e1, r1⟩ := lstAt hh e
      rw [r1.bls] at e1
      exact cr_any hc pins s σ H _ us Q I rv ⟨_, _, rfl, .inl (.inl e1), c _ _ _ _ (.refl H) (.bl _) hh q⟩
/-- abs, int of ints -/
def cAbs : AC := fun ds h R => match ds with
  | [.int i] => R (.int (if i < 0 then -i else i)) h
  | _ => False
def cInt : AC := fun ds h R => match ds with
  | [.int i] => R (.int i) h
  | [.bl i] => R (.int (if i then 1 else 0)) h
  | _ => False
theorem call_abs : CJ X (.builtin "abs") cAbs := by
  intro pins s σ H xs us Q I rv ⟨ds, h, R, rds, hh, q, c⟩
  match ds, q with
  | [.int a], q =>
    cases rds with
    | cons r1 r2 =>
      cases r2; cases r1
      exact L2.call_abs pins s σ H _ us Q I rv ⟨_, rfl, c _ _ _ _ (.refl H) (.int _) hh q⟩
theorem call_int : CJ X (.type "int") cInt := by
  intro pins s σ H xs us Q I rv ⟨ds, h, R, rds, hh, q, c⟩
  match ds, q with
  | [.int a], q =>
    cases rds with
    | cons r1 r2 =>
      cases r2; cases r1
      exact L2.call_int1 pins s σ H _ us Q I rv (.inl ⟨_, rfl, c _ _ _ _ (.refl H) (.int _) hh q⟩)
  | [.bl a], q =>
    cases rds with
    | cons r1 r2 =>
      cases r2; cases r1
      exact L2.call_int1 pins s σ H _ us Q I rv (.inr ⟨_, rfl, c _ _ _ _ (.refl H) (.int _) hh q⟩)
/-- min, max of two ints -/
def cMin : AC := fun ds h R => match ds with
  | [.int i, .int j] => R (.int (if j < i then j else i)) h
  | _ => False
def cMax : AC := fun ds h R => match ds with
  | [.int i, .int j] => R (.int (if j > i then j else i)) h
  | _ => False
theorem call_min (hc : X.calm = true) : CJ X (.builtin "min") cMin := by
  intro pins s σ H xs us Q I rv ⟨ds, h, R, rds, hh, q, c⟩
  match ds, q with
  | [.int a, .int b], q =>
    cases rds with
    | cons r1 r2 =>
      cases r2 with
      | cons r2 r3 =>
        cases r3; cases r1; cases r2
        exact L2.call_min2 hc pins s σ H _ us Q I rv ⟨_, _, rfl, c _ _ _ _ (.refl H) (.int _) hh q⟩
theorem call_max (hc : X.calm = true) : CJ X (.builtin "max") cMax := by
  intro pins s σ H xs us Q I rv ⟨ds, h, R, rds, hh, q, c⟩
  match ds, q with
  | [.int a, .int b], q =>
    cases rds with
    | cons r1 r2 =>
      cases r2 with
      | cons r2 r3 =>
        cases r3; cases r1; cases r2
        exact L2.call_max2 hc pins s σ H _ us Q I rv ⟨_, _, rfl, c _ _ _ _ (.refl H) (.int _) hh q⟩

/-! ### sorted -/
/-- the sorted list of data -/
noncomputable def srt (xs : List D) : List D := xs.mergeSort (PySem.W.dataLe false toP)
def SortsD (xs : List D) : Prop := xs.all (okd 60) = true ∧ PySem.W.AllAlike (xs.map toP) ∧ PySem.W.Sortable (xs.map toP)
def cSorted : AC := fun ds h R => match ds with
  | [x] => ∃ xs, seqOf h x = some xs ∧ SortsD xs ∧ ∀ p, h p = none → R (.ref p) (aup h p (.lst (srt xs)))
  | _ => False
theorem each_rd {K : PySem.W.Frag} {H : Hp} : ∀ {xs : List D} {vs : List V} {its : List Value}, RDs K H xs vs → Vals vs its → PySem.W.EachIs (fun u d => ∃ v, RelV v u ∧ RD K H d v) its xs
  | [], _, _, h, r => by cases h; cases r; exact .nil
  | _ :: _, _, _, h, r => by
    cases h with
    | cons h1 h2 =>
      cases r with
      | cons r1 r2 => exact .cons ⟨_, r1, h1⟩ (each_rd h2 r2)
theorem each_back {K : PySem.W.Frag} {H : Hp} : ∀ {xs : List D} {its : List Value}, PySem.W.EachIs (fun u d => ∃ v, RelV v u ∧ RD K H d v) its xs → ∃ vs, RDs K H xs vs ∧ Vals vs its
  | [], _, h => by cases h; exact ⟨[], .nil, .nil⟩
  | _ :: _, _, h => by
    cases h with
    | cons h1 h2 =>
      obtain ⟨v, a, b⟩ := h1
      obtain ⟨vs, c, d⟩ := each_back h2
      exact ⟨v :: vs, .cons b c, .cons a d⟩
theorem call_sorted (hu : X.A.units + 64 < cLine) : CJ X (.builtin "sorted") cSorted := by
  intro pins s σ H xs us Q I rv ⟨ds, h, R, rds, hh, q, c⟩
  match ds, q with
  | [x], ⟨ys, e, ⟨o1, o2, o3⟩, q⟩ =>
    cases rds with
    | cons r1 r2 =>
      cases r2
      cases rv with
      | cons ru rr =>
        cases rr
        obtain ⟨a, vs, its, T, o, n, rfl, rfl, h2, k, hT, ho, hc, hd, hz⟩ := seq_obj I hh r1 ru e
        refine Calls.call_function_entry kind_sorted plain_sorted entry_sorted (args_sorted1 _) ?_
        unfold Builtin.«sorted»
        refine wpAny_bind (m := checkCount "sorted" 1 1 _) (wpAny_pure ?_)
        refine wpAny_bind (wpAny_collect_seq (hsz := by rw [List.size_toArray]; exact hz) a hT ho hc hd fun h' kp => ?_)
        have I1 : Inv X pins σ H { s with heap := h' } := I.kept (t' := s.toks) kp
        refine wpAny_bind (wpAny_newList ?_ (by simpa using hz))
        have hp := I1.hok.fresh (Nat.le_refl _)
        have hoL : (h'.push (seqObj "list" its.toArray 0)).get? h'.objs.size = some (seqObj "list" its.toArray 0) := Heap.get?_push_size _ rfl
        have old : ∀ b ob, h'.get? b = some ob → b ≠ h'.objs.size ∧ (h'.push (seqObj "list" its.toArray 0)).get? b = some ob := fun b ob q => ⟨Nat.ne_of_lt (Heap.lt_size q), Heap.get?_push_of_some _ q⟩
        have E1 := each_rd h2 k
        have keep2 : ∀ b ob, h'.get? b = some ob → (PySem.W.sortingHeap (h'.push (seqObj "list" its.toArray 0)) h'.objs.size its).get? b = some ob := fun b ob q => PySem.W.sortingHeap_old (old b ob q).1 (old b ob q).2
        have hdp : ∀ d ∈ ys, okd 60 d = true := List.all_eq_true.mp o1
        have E2 : PySem.W.EachIs (fun v d => ∃ as, Reads (PySem.W.sortingHeap (h'.push (seqObj "list" its.toArray 0)) h'.objs.size its) v (toP d) as) its ys := by
          refine (PySem.W.each_mem E1).mono fun u d ⟨⟨v, a1, a2⟩, hm⟩ => ?_
          obtain ⟨as, r⟩ := Dp.reads I1 _ _ u (RD.dp 60 d v (hdp d hm) a2) a1
          exact ⟨as, PyProof.Rows.Reads.keeps keep2 r⟩
        have hlen := E1.length
        have S := PySem.W.SortsAt.data (prog := X.prog) (w := X.w) (A := X.A.in1.in1) (s := { s with heap := PySem.W.sortingHeap (h'.push (seqObj "list" its.toArray 0)) h'.objs.size its }) (PySem.W.each_map (R := fun v d => ∃ as, Reads (PySem.W.sortingHeap (h'.push (seqObj "list" its.toArray 0)) h'.objs.size its) v d as) toP E2) o2 o3 (by
          intro d hd
          obtain ⟨b, hb, rfl⟩ := List.mem_map.mp hd
          have := (okd_lay 60 b (hdp b hb)).2
          show X.A.units + 1 + 1 + _ < cLine
          omega)
        refine wpAny_bind (wpAny_holding (wpAny_call_entry slot_list_sort ⟨_, hoL, rfl⟩ entry_list_sort (PySem.W.list_sort_vals (s := { s with heap := h'.push (seqObj "list" its.toArray 0) }) hoL S hz ⟨_, rfl, ?_⟩) (args_list_sort _)))
        refine wpAny_pure ⟨_, rfl, ?_⟩
        have fin := PySem.W.sortVals_data (h' := PySem.W.sortingHeap (h'.push (seqObj "list" its.toArray 0)) h'.objs.size its) (enc := toP) false E1 E2 o2
        obtain ⟨ws, b1, b2⟩ := each_back fin
        obtain ⟨ep, he'⟩ := sortedHeap_at (h := h'.push (seqObj "list" its.toArray 0)) (a := h'.objs.size) (vs := its) (n := 0) (out := (PySem.W.sortVals (PySem.W.dataKind (PySem.W.sortingHeap (h'.push (seqObj "list" its.toArray 0)) h'.objs.size its) (ys.map toP)) false its its).toArray) hoL
        have hwl : ws.length ≤ sizeLine := by rw [← b1.length, List.length_mergeSort, ← hlen]; exact hz
        refine ⟨.ref h'.objs.size, upd H h'.objs.size (.lst ws), I1.laid (t' := s.toks) (fun b u hu => ?_) (Nat.le_refl _) ⟨hwl, _, ep, b2, he'⟩, rfl, newLst hh hp b1 c q⟩
        rw [sortedHeap_old (old b u hu).1 (by rw [Heap.size_push]; exact Nat.lt_succ_of_lt (Heap.lt_size hu))]
        exact (old b u hu).2
end
end AX

set_option Elab.async false
set_option linter.all false
set_option maxRecDepth 100000
set_option maxHeartbeats 4000000
namespace AX
open PySem PySem.Spec PyProof.Rows L2

/-! ### t[::-1] -/
section
variable {prog : Program} {w : World} {A : Around} {E : Value → Shared → Prop} {s : Shared}
theorem adjust_rev (n : Nat) : Builtin.Slice.sliceAdjust none none (-1) (n : Int) = ((n : Int) - 1, -1) := by
  unfold Builtin.Slice.sliceAdjust
  simp
theorem places_rev (n : Nat) : Builtin.Slice.slicePlaces ((n : Int) - 1) (-1) (-1) = n := by
  unfold Builtin.Slice.slicePlaces
  simp
  try omega
theorem pick_rev (xs : Array Value) : ((List.range xs.size).filterMap fun (m : Nat) => xs[(((xs.size : Int) - 1) + (m : Int) * (-1)).toNat]?).toArray = xs.toList.reverse.toArray := by
  have e : (List.range xs.size).filterMap (fun (m : Nat) => xs[(((xs.size : Int) - 1) + (m : Int) * (-1)).toNat]?) = ((List.range xs.size).map fun k => xs.size - 1 - k).filterMap (xs[·]?) := by
    rw [List.filterMap_map]
    have cg : ∀ (f g : Nat → Option Value) (l : List Nat), (∀ m ∈ l, f m = g m) → l.filterMap f = l.filterMap g := by
      intro f g l
      induction l with
      | nil => intro _; rfl
      | cons a l ih =>
        intro h
        rw [List.filterMap_cons, List.filterMap_cons, h a (by simp), ih fun m hm => h m (by simp [hm])]
    apply cg
    intro m hm
    have := List.mem_range.mp hm
    show xs[(((xs.size : Int) - 1) + (m : Int) * (-1)).toNat]? = xs[xs.size - 1 - m]?
    congr 1
    omega
  rw [e, PySem.W.krv_range, List.filterMap_reverse, PySem.W.krv_all]
theorem getItem_tuple_rev {t sl : Addr} {items : Array Value} {vk : Value} {Q : Value → Shared → Prop} (ht : IsTup s.heap t items) (hs : s.heap.IsSliceOf sl .none .none vk) (pk : IsPart vk (some (-1)))
    (h : Q (.ref s.heap.objs.size) { s with heap := s.heap.push { cls := .type "tuple", data := .seq items.toList.reverse.toArray } })
    (hsz : items.size ≤ sizeLine) : wpAny (model prog w) A (getItem (.ref t) (.ref sl)) Q E s := by
  have htake : sizeOk (.seq items.toList.reverse.toArray) := by
    show items.toList.reverse.toArray.size ≤ sizeLine
    rw [List.size_toArray, List.length_reverse, Array.length_toList]
    exact hsz
  obtain ⟨os, hos, hcs, hds⟩ := id hs
  cases pk with
  | int _ tk =>
  have hTs : s.TypeIs (.ref sl) "slice" := ⟨os, hos, hcs⟩
  unfold getItem
  try with_reducible refine wpAny_holding ?_
  first | refine wpAny_bind (wpAny_pure ?_) | skip
  refine wpAny_bind (wpAny_sequenceKey ht.typeIs (by decide) ?_)
  refine wpAny_bind (wpAny_callSpecial?_slot (name := Str.ofString "__getitem__") ht.typeIs PyProof.Rows.slot_tuple_getitem
    (wpAny_call_entry PyProof.Rows.slot_tuple_getitem ht.typeIs entry_tuple_getitem ?_ (args_tuple_getitem _ _)))
  show wpAny _ _ (Builtin.Tuple.tupleItemsOf (.ref t) >>= _) _ _ s
  refine wpAny_bind (tupleItemsOf_ ht ?_)
  refine wpAny_bind (wpAny_typeOf hTs ?_)
  rw [if_pos (by decide)]
  refine wpAny_bind (wpAny_mono (Q := fun r s' => s' = s ∧ r = (((items.size : Int) - 1), (-1 : Int), items.size)) ?_ ?_ fun _ _ e => e)
  · unfold Builtin.Slice.sliceApplied Builtin.Slice.sliceFields
    refine wpAny_bind (wpAny_bind (wpAny_field hos hds (x := .none) rfl (wpAny_bind (wpAny_field hos hds (x := .none) rfl (wpAny_bind (wpAny_field hos hds (x := .int (-1) tk) rfl (wpAny_pure ?_)))))))
    refine wpAny_bind (slicePart_int ?_)
    show wpAny _ _ (if ((-1 : Int) == 0) = true then _ else _) _ _ s
    rw [if_neg (by decide)]
    refine wpAny_bind (slicePart_none (wpAny_bind (slicePart_none (wpAny_bind (wpAny_pure ?_)))))
    show wpAny _ _ (match Builtin.Slice.sliceAdjust none none (-1) (items.size : Int) with | (lo, hi) => pure (lo, (-1 : Int), Builtin.Slice.slicePlaces lo hi (-1))) _ _ s
    rw [adjust_rev]
    show wpAny _ _ (pure (((items.size : Int) - 1), (-1 : Int), Builtin.Slice.slicePlaces ((items.size : Int) - 1) (-1) (-1))) _ _ s
    rw [places_rev]
    exact wpAny_pure ⟨rfl, rfl⟩
  · rintro _ _ ⟨rfl, rfl⟩
    have hno : ¬ ((((items.size : Int) - 1) == 0 && (-1 : Int) == 1 && items.size == items.size) = true) := by
      intro q
      rw [Bool.and_eq_true, Bool.and_eq_true] at q
      exact absurd q.1.2 (by decide)
    show wpAny _ _ (if (((items.size : Int) - 1) == 0 && (-1 : Int) == 1 && items.size == items.size) = true then _ else _) _ _ _
    rw [if_neg hno, pick_rev]
    first
      | exact wpAny_bind (m := Builtin.Tuple.tupleExact _) (wpAny_newObj_type (wpAny_pure ⟨_, rfl, wpAny_pure h⟩) htake)
      | exact wpAny_bind (m := Builtin.Tuple.tupleExact _) (wpAny_newObj_type (wpAny_bind (wpAny_pure (wpAny_pure ⟨_, rfl, wpAny_pure h⟩))) htake)
      | exact wpAny_bind (wpAny_bind (m := Builtin.Tuple.tupleExact _) (wpAny_newObj_type (wpAny_pure (wpAny_pure ⟨_, rfl, wpAny_pure h⟩)) htake))
      | exact wpAny_bind (wpAny_bind (m := Builtin.Tuple.tupleExact _) (wpAny_newObj_type (wpAny_pure ⟨_, rfl, wpAny_pure h⟩) htake))
end
section
variable {X : Cx} {a b c e : Expr} {es : List Expr} {ta tb tc : AE} {t : AA} {pos : Pos}
def aRev (te : AE) : AE := fun σ h R => te σ h fun x h1 => match x with
  | .tup xs => R (.tup xs.reverse) h1
  | .ref a => (match h1 a with
    | some (.lst xs) => ∀ p, h1 p = none → R (.ref p) (aup h1 p (.lst xs.reverse))
    | _ => False)
  | _ => False
theorem e_rev {k : Nat} {p1 p2 p3 : Pos} (he : EJ X e ta) : EJ X (.Subscript e (.Slice none none (some (.UnaryOp .USub (.Constant (.int 1) k p1) p2)) p3) pos) (aRev ta) := by
  refine ⟨fun pins s τ H Q I ⟨σ, h, R, hs, hh, q, c⟩ => ?_⟩
  refine Subscript_ (thn (he.run pins s τ H (fun v H1 => ∃ x h1, HExt H H1 ∧ RD X.K H1 x v ∧ RH X h1 H1 ∧ _) I ⟨σ, h, _, hs, hh, q, fun d v h1 H1 e1 rd hh1 q1 => ⟨d, h1, e1, rd, hh1, q1⟩⟩) fun v s1 ⟨x, H1, I1, r1, d, h1, e1, rd, hh1, q1⟩ => ?_)
  have hst : PO X (some (.UnaryOp .USub (.Constant (.int 1) k p1) p2)) (tPart (tUn (rU fun i => .int (-i)) (tC (.int 1)))) := po_some (pe_un un_neg pe_int)
  refine wpAny_Slice (thn (po_none.run pins s1 τ H1 (fun o H2 => o = none ∧ H2 = H1) I1 ⟨rfl, rfl⟩) fun vl s2 ⟨l, H2, I2, pl, el, e2⟩ => ?_)
  subst el e2
  refine thn (po_none.run pins s2 τ H2 (fun o H3 => o = none ∧ H3 = H2) I2 ⟨rfl, rfl⟩) fun vu s3 ⟨u, H3, I3, pu, eu, e3⟩ => ?_
  subst eu e3
  refine thn (hst.run pins s3 τ H3 (fun o H4 => o = some (-1) ∧ H4 = H3) I3 ⟨1, rfl, -1, rfl, rfl, rfl⟩) fun vs s4 ⟨o, H4, I4, ps, eo, e4⟩ => ?_
  subst eo e4
  have I5 : Inv X pins τ H4 { s4 with heap := s4.heap.push { cls := .type "slice", data := .fields #[vl, vu, vs] } } := I4.kept (t' := s4.toks) fun b ob q => Heap.get?_push_of_some _ q
  cases d <;> first | exact False.elim q1 | skip
  · cases rd with
    | tup s1 rr =>
      cases r1
      obtain ⟨its, r, ht, hz⟩ := I5.tuple s1.sqT
      show wpAny (model X.prog X.w) X.A (subscriptTail e (.Slice none none (some (.UnaryOp .USub (.Constant (.int 1) k p1) p2)) p3) (.ref _) (.ref s4.heap.objs.size)) (EP X pins τ Q) X.xe { s4 with heap := s4.heap.push { cls := .type "slice", data := .fields #[vl, vu, vs] } }
      cases pl; cases pu
      refine tail_any (ops := [.ref _, .ref s4.heap.objs.size]) ht.typeIs PyProof.Rows.slot_tuple_getitem.lookup ?_ (by with_unfolding_all rfl)
      refine getItem_tuple_rev ht (Heap.IsSliceOf.new _ _ _ vs) ps ?_ (by rw [List.size_toArray, ← r.length]; exact hz)
      obtain ⟨I6, hp, nd⟩ := newTup I5 r.reverse (by rw [List.length_reverse]; exact hz)
      exact ⟨.ref _, _, I6, rfl, c _ _ _ _ (e1.trans (.new hp)) (.tup nd (rr.rev.mono (.new hp))) (hh1.junk hp) q1⟩
  · cases rd
    revert q1
    simp only
    split
    · rename_i e; intro q1
      obtain ⟨ws, e2, rr⟩ := lstAt hh1 e
      cases r1
      obtain ⟨its, r, ht, hz⟩ := I5.list (.inl (.inl e2))
      have hlen := r.length
      show wpAny (model X.prog X.w) X.A (subscriptTail _ (.Slice none none (some (.UnaryOp .USub (.Constant (.int 1) k p1) p2)) p3) (.ref _) (.ref s4.heap.objs.size)) (EP X pins τ Q) X.xe { s4 with heap := s4.heap.push { cls := .type "slice", data := .fields #[vl, vu, vs] } }
      refine tail_any (ops := [.ref _, .ref s4.heap.objs.size]) ht.isList.typeIs (PySem.slot_list_getitem.lookup) ?_ (by with_unfolding_all rfl)
      refine wpAny_getItem_list_slice ht.isList (Heap.IsSliceOf.new _ vl vu vs) pl pu ps (by decide) ?_ (by rw [List.size_toArray]; omega)
      rw [PySem.W.krv_pick]
      have hp := I5.hok.fresh (Nat.le_refl _)
      refine ⟨.ref _, _, I5.laid (t' := s4.toks) (o := .lst ws.reverse) (fun b ob q => Heap.get?_push_of_some _ q) (Nat.le_refl _) ?_, rfl, newLst hh1 hp rr.rev (c.ext e1) q1⟩
      exact ⟨by rw [List.length_reverse]; exact hz, its.reverse, 0, r.reverse, Heap.get?_push_size _ rfl⟩
    · exact False.elim

/-! ### isinstance -/
theorem e_isi {T : String} {x : Str} {p p2 : Pos} (hT : T = "int" ∨ T = "bool" ∨ T = "str" ∨ T = "tuple") (ha : EJ X a ta) (hg : Gl X "isinstance") (hm : X.mg "isinstance" = none) (hg2 : Gl X x) (hm2 : X.mg x = none) (hv2 : bootBuiltins x = some (.type T))
    (hn : x ≠ "__name__" := by decide) (hdb : (x == ("__debug__" : Str)) = false := by decide)
    (he : starEach [a, .Name x p2] X.env = (false, eval a X.env) :: starEach [.Name x p2] X.env := by rfl) (he2 : starEach [.Name x p2] X.env = (false, eval (.Name x p2) X.env) :: starEach [] X.env := by rfl)
    (hpl : (backTo pos (starEach [.Name x p2] X.env)).any (·.1) = false := by rfl) : EJ X (.Call (.Name "isinstance" p) [a, .Name x p2] [] pos) (aIsi T ta) :=
  (pe_callB call_isi hg hm boot_isinstance (pa_cons ha (pa_cons (pe_bltn hg2 hm2 hv2 (v := .ty T) rfl hn hdb) pa_nil he2) he) (by decide) (by decide) he hpl).imp fun τ H Q _ ⟨σ, h, R, hs, hh, q, c⟩ =>
    ⟨σ, h, _, hs, hh, q, fun d v h1 H1 e1 rd hh1 ⟨ty, e2, q1⟩ => ⟨v, .ty T, .type ty, .type T, _, rfl, .ty T, ty_of hh1 rd e2, kit_ty X.K hT e2, c _ _ _ _ e1 (.bl _) hh1 q1⟩⟩

/-! ### in -/
def rInB (f : Bool → Bool) : A2 := fun x y h R => ∃ xs, seqOf h y = some xs ∧ okd 60 x = true ∧ xs.all (okd 60) = true ∧ R (.bl (f (xs.any fun z => D.eqv z x))) h
theorem any_toP (x : D) : ∀ xs : List D, ((toPs xs).any fun z => PyData.eqv z (toP x)) = xs.any fun z => D.eqv z x
  | [] => rfl
  | y :: ys => by rw [toPs, List.any_cons, List.any_cons, any_toP x ys]; rfl
theorem okds_tup {n : Nat} {xs : List D} (h : xs.all (okd n) = true) : PyData.canLayAll0 (toPs xs) = true := by
  obtain ⟨a, b⟩ := okd_lay (n + 1) (.tup xs) h
  simp only [toP, PyData.canLay0] at a
  exact a
theorem in_core (f : Bool → Bool) {op : CmpOp} {pins : List (Addr × Obj)} {s : Shared} {σ : L2.St} {H : Hp} {x y : V} {v u : Value} {Q : VK} (hu : X.A.units + 65 < cLine) (I : Inv X pins σ H s) (rx : RelV x v) (ry : RelV y u)
    (k : ∀ (c x' : Value) (xs : List PyData) (d : PyData) (as bs : List Addr) (isT : Bool), Reads s.heap c (if isT then .tuple xs else .list xs) as → Reads s.heap x' d bs → PyData.canLayAll0 xs = true → d.canLay0 = true → X.A.units + 1 + min (PyData.depthAll xs) d.depth < cLine →
      EP X pins σ Q (.bool (f (xs.any fun y => PyData.eqv y d))) s → wpAny (model X.prog X.w) X.A (compareOp op x' c) (EP X pins σ Q) X.xe s)
    (q : upR X (rInB f) x y H Q) : wpAny (model X.prog X.w) X.A (compareOp op v u) (EP X pins σ Q) X.xe s := by
  obtain ⟨dx, dy, h, R, hx, hy, hh, ⟨xs, e, o1, o2, q⟩, c⟩ := q
  obtain ⟨bs, r1⟩ := Dp.reads I _ _ v (RD.dp 60 _ _ o1 hx) rx
  obtain ⟨a, vs, rfl, h2, h3⟩ := seq_sq hh hy e
  have hd := RDs.dp 60 _ _ o2 h2
  have room : X.A.units + 1 + min (PyData.depthAll (toPs xs)) (toP dx).depth < cLine := by
    have := (okd_lay 60 dx o1).2
    have := Nat.min_le_right (PyData.depthAll (toPs xs)) (toP dx).depth
    omega
  have fin : EP X pins σ Q (.bool (f ((toPs xs).any fun y => PyData.eqv y (toP dx)))) s := ⟨.bl _, H, I, rfl, by rw [any_toP]; exact c _ _ _ _ (.refl H) (.bl _) hh q⟩
  rcases h3 with h3 | h3
  · obtain ⟨as, r2⟩ := Dp.reads I (.list (toPs xs)) (.ref a) u (.lst h3 hd) ry
    exact k u v _ _ as bs false r2 r1 (okds_tup o2) (okd_lay 60 dx o1).1 room fin
  · obtain ⟨as, r2⟩ := Dp.reads I (.tuple (toPs xs)) (.ref a) u (.tup h3 hd) ry
    exact k u v _ _ as bs true r2 r1 (okds_tup o2) (okd_lay 60 dx o1).1 room fin
theorem o_in (hu : X.A.units + 65 < cLine) : OJ X (compareOp .In) (rInB id) := fun pins s σ H x y v u Q I rx ry q =>
  in_core id hu I rx ry (fun c x' xs d as bs isT r1 r2 h1 h2 h3 h4 => by
    cases isT with
    | true => exact SeqAt.in_tuple_reads r1 r2 h1 h2 h3 h4
    | false => exact SeqAt.in_list_reads r1 r2 h1 h2 h3 h4) q
theorem o_notin (hu : X.A.units + 65 < cLine) : OJ X (compareOp .NotIn) (rInB not) := fun pins s σ H x y v u Q I rx ry q =>
  in_core not hu I rx ry (fun c x' xs d as bs isT r1 r2 h1 h2 h3 h4 => by
    cases isT with
    | true => exact SeqAt.notIn_tuple_reads r1 r2 h1 h2 h3 h4
    | false => exact SeqAt.notIn_list_reads r1 r2 h1 h2 h3 h4) q

/-! ### * -/
def rMul : A2 := fun x y h R => match x, y with
  | .int i, .int j => CMul i j ∧ R (.int (i * j)) h
  | .tup xs, .int k => xs ≠ [] ∧ 2 ≤ k ∧ k ≤ 1000 ∧ xs.length ≤ 1000 ∧ R (.tup (List.replicate k.toNat xs).flatten) h
  | .ref a, .int k => ∃ xs, h a = some (.lst xs) ∧ -(2 ^ 63) ≤ k ∧ k < 2 ^ 63 ∧ xs.length * k.toNat ≤ sizeLine ∧ ∀ p, h p = none → R (.ref p) (aup h p (.lst (List.replicate k.toNat xs).flatten))
  | _, _ => False
theorem RDs.rep {K : PySem.W.Frag} {H : Hp} {xs : List D} {vs : List V} (r : RDs K H xs vs) : ∀ n, RDs K H (List.replicate n xs).flatten (List.replicate n vs).flatten
  | 0 => .nil
  | n + 1 => by rw [List.replicate_succ, List.replicate_succ, List.flatten_cons, List.flatten_cons]; exact r.append (RDs.rep r n)
end
end AX

set_option Elab.async false
set_option linter.all false
set_option maxRecDepth 100000
set_option maxHeartbeats 4000000
namespace AX
open PySem PySem.Spec PyProof.Rows L2
/-! ### dicts by tuples -/
def valD (kvs : List (D × D)) (k : D) : Option D := (kvs.find? fun kv => decide (kv.1 = k)).map (·.2)
def putD (kvs : List (D × D)) (k v : D) : List (D × D) := if (valD kvs k).isSome then kvs.map fun kv => if kv.1 = k then (kv.1, v) else kv else kvs ++ [(k, v)]
theorem putD_length (kvs : List (D × D)) (k v : D) : (putD kvs k v).length ≤ kvs.length + 1 := by
  unfold putD; split <;> simp
theorem valD_nil {k : D} : valD [] k = none := rfl
theorem valD_pos {p : D × D} {r : List (D × D)} {k : D} (e : p.1 = k) : valD (p :: r) k = some p.2 := by simp [valD, List.find?_cons, e]
theorem valD_neg {p : D × D} {r : List (D × D)} {k : D} (e : ¬ p.1 = k) : valD (p :: r) k = valD r k := by simp [valD, List.find?_cons, e]
theorem valD_map (k j : D) (y : D) : ∀ kvs : List (D × D), valD (kvs.map fun kv => if kv.1 = k then (kv.1, y) else kv) j = (valD kvs j).map fun x => if j = k then y else x
  | [] => rfl
  | p :: r => by
    rw [List.map_cons]
    by_cases h : p.1 = j
    · by_cases hk : p.1 = k
      · rw [valD_pos (by rw [if_pos hk]; exact h), valD_pos h, if_pos hk, Option.map_some, if_pos (h ▸ hk)]
      · rw [valD_pos (by rw [if_neg hk]; exact h), valD_pos h, if_neg hk, Option.map_some, if_neg (h ▸ hk)]
    · have hne : ¬ (if p.1 = k then (p.1, y) else p).1 = j := by split <;> exact h
      rw [valD_neg hne, valD_neg h, valD_map k j y r]
theorem valD_snoc (k j : D) (y : D) : ∀ kvs : List (D × D), valD kvs k = none → valD (kvs ++ [(k, y)]) j = if j = k then some y else valD kvs j
  | [], _ => by
    rw [List.nil_append]
    by_cases h : j = k
    · rw [valD_pos (by exact h.symm), if_pos h]
    · rw [valD_neg (fun e => h e.symm), if_neg h]
  | p :: r, h => by
    have hpk : ¬ p.1 = k := fun e => by rw [valD_pos e] at h; cases h
    rw [valD_neg hpk] at h
    rw [List.cons_append]
    by_cases hj : p.1 = j
    · rw [valD_pos hj, valD_pos hj, if_neg (fun e => hpk (hj.trans e))]
    · rw [valD_neg hj, valD_neg hj, valD_snoc k j y r h]
theorem valD_put (kvs : List (D × D)) (k j : D) (y : D) : valD (putD kvs k y) j = if j = k then some y else valD kvs j := by
  unfold putD
  by_cases h : (valD kvs k).isSome = true
  · rw [if_pos h, valD_map]
    by_cases hj : j = k
    · subst hj
      obtain ⟨z, hz⟩ := Option.isSome_iff_exists.mp h
      rw [hz, if_pos rfl]; simp
    · rw [if_neg hj]
      cases valD kvs j <;> simp [hj]
  · rw [if_neg h]
    exact valD_snoc k j y kvs (by cases q : valD kvs k <;> simp_all)
section
variable {X : Cx} {pins : List (Addr × Obj)} {σ : L2.St} {H : Hp} {s : Shared}
mutual
theorem nk_is (I : Inv X pins σ H s) : ∀ (d : D) (v : V) (u : Value) (k : NestedKey), RD X.K H d v → RelV v u → NK d = some k → NestedIs s.heap k u
  | .non, _, _, _, h, r, e => by cases h; cases r; simp only [NK, Option.some.injEq] at e; subst e; exact .none
  | .int i, _, _, _, h, r, e => by cases h; obtain ⟨t, rfl⟩ := r; simp only [NK, Option.some.injEq] at e; subst e; exact .int _ _
  | .str i, _, _, _, h, r, e => by cases h; obtain ⟨t, rfl⟩ := r; simp only [NK, Option.some.injEq] at e; subst e; exact .text _ _
  | .bl _, _, _, _, _, _, e => by simp [NK] at e
  | .ref _, _, _, _, _, _, e => by simp [NK] at e
  | .tup xs, _, _, _, h, r, e => by
    cases h with
    | tup h1 h2 =>
      cases r
      simp only [NK, Option.map_eq_some_iff] at e
      obtain ⟨ks, e1, rfl⟩ := e
      obtain ⟨its, rv, ⟨o, ho, hc, n, hd⟩, _⟩ := I.tuple h1.sqT
      exact .tup ho hc hd (by simpa using nks_is I xs _ its ks h2 rv e1)
theorem nks_is (I : Inv X pins σ H s) : ∀ (ds : List D) (vs : List V) (us : List Value) (ks : List NestedKey), RDs X.K H ds vs → Vals vs us → NKs ds = some ks → NestedAll s.heap ks us
  | [], _, _, _, h, r, e => by cases h; cases r; simp only [NKs, Option.some.injEq] at e; subst e; exact .nil
  | d :: ds, _, _, _, h, r, e => by
    obtain ⟨k, ks, rfl, e1, e2⟩ := NKs_cons e
    cases h with
    | cons h1 h2 =>
      cases r with
      | cons r1 r2 => exact .cons (nk_is I d _ _ k h1 r1 e1) (nks_is I ds _ _ ks h2 r2 e2)
end
/-- the entries of such a dict -/
abbrev KN (K : PySem.W.Frag) (H : Hp) : List (D × D) → List (NestedKey × Addr × Value) → Prop :=
  Paired fun (p : D × D) (q : NestedKey × Addr × Value) => KeyOf p.1 q.1 ∧ RD K H p.1 (.ref q.2.1) ∧ ∃ v, RD K H p.2 v ∧ RelV v q.2.2
theorem KeyOf.iff {d e : D} {k j : NestedKey} (x : KeyOf d k) (y : KeyOf e j) : d = e ↔ k = j := by
  constructor
  · rintro rfl; exact Option.some.inj (x.1.symm.trans y.1)
  · rintro rfl; exact NK_inj _ _ _ x.1 y.1
def RelDV (K : PySem.W.Frag) (H : Hp) : Option D → Option Value → Prop
  | some d, some u => ∃ v, RD K H d v ∧ RelV v u
  | none, none => True
  | _, _ => False
theorem KN.val {K : PySem.W.Frag} {kvs : List (D × D)} {xs : List (NestedKey × Addr × Value)} (r : KN K H kvs xs) {k : D} {j : NestedKey} (e : KeyOf k j) : RelDV K H (valD kvs k) ((atKey xs j).map (·.2)) := by
  induction r with
  | nil => exact True.intro
  | @cons p q ps qs h t ih =>
    obtain ⟨h1, _, h2⟩ := h
    by_cases c : p.1 = k
    · have c' : q.1 = j := (h1.iff e).mp c
      have b : atKey (q :: qs) j = some q.2 := by simp [atKey, List.find?_cons, c']
      rw [valD_pos c, b]; exact h2
    · have c' : ¬ q.1 = j := fun z => c ((h1.iff e).mpr z)
      have b : atKey (q :: qs) j = atKey qs j := by simp [atKey, List.find?_cons, c']
      rw [valD_neg c, b]; exact ih
theorem KN.repl {K : PySem.W.Frag} {kvs : List (D × D)} {xs : List (NestedKey × Addr × Value)} (r : KN K H kvs xs) {k : D} {j : NestedKey} (e : KeyOf k j) {y : D} {v : V} {u : Value} (ry : RD K H y v) (ru : RelV v u) :
    KN K H (kvs.map fun kv => if kv.1 = k then (kv.1, y) else kv) (xs.map (putAt j u)) := by
  induction r with
  | nil => exact .nil
  | @cons p q ps qs h t ih =>
    rw [List.map_cons, List.map_cons]
    refine .cons ?_ ih
    obtain ⟨h1, h2, h3⟩ := h
    unfold putAt
    by_cases c : p.1 = k
    · rw [if_pos c, if_pos ((h1.iff e).mp c)]; exact ⟨h1, h2, _, ry, ru⟩
    · rw [if_neg c, if_neg (fun z => c ((h1.iff e).mpr z))]; exact ⟨h1, h2, h3⟩
theorem RelDV.isSome {K : PySem.W.Frag} {o : Option D} {u : Option Value} (r : RelDV K H o u) : o.isSome = u.isSome := by
  cases o <;> cases u <;> first | rfl | exact False.elim r
theorem KN.put {K : PySem.W.Frag} {kvs : List (D × D)} {xs : List (NestedKey × Addr × Value)} (r : KN K H kvs xs) {k : D} {j : NestedKey} (e : KeyOf k j) {b : Addr} (hb : RD K H k (.ref b)) {y : D} {v : V} {u : Value} (ry : RD K H y v) (ru : RelV v u) :
    KN K H (putD kvs k y) (storedH xs j b u) := by
  have q := (r.val e).isSome
  rw [Option.isSome_map] at q
  unfold putD storedH
  rw [q]
  by_cases c : (atKey xs j).isSome = true
  · rw [if_pos c, if_pos c]; exact r.repl e ry ru
  · rw [if_neg c, if_neg c]; exact Paired.snoc r ⟨e, hb, _, ry, ru⟩
theorem KN.mono {K : PySem.W.Frag} {H' : Hp} {kvs : List (D × D)} {xs : List (NestedKey × Addr × Value)} (r : KN K H kvs xs) (x : HExt H H') : KN K H' kvs xs :=
  Paired.mapP r fun _ _ ⟨a, b, v, c, d⟩ => ⟨a, b.mono x, v, c.mono x, d⟩
theorem KN.dictOf (I : Inv X pins σ H s) {a : Addr} {kvs : List (D × D)} (r : ROdN X.prog X.w X.K H a kvs) : kvs.length ≤ sizeLine ∧ (a == sysModules) = false ∧ (∃ es ep, H a = some (DNo a es ep)) ∧ ∃ xs, KN X.K H kvs xs ∧ s.heap.DictOfH (nestedKind X.prog X.w) a xs := by
  obtain ⟨z, y, es, ep, xs, h1, h2, h3, h4⟩ := r
  obtain ⟨⟨o, e1, e2, e3⟩, _⟩ := I.hok a _ h1
  refine ⟨z, y, ⟨es, ep, h1⟩, xs, h4, o, es, ep, e1, e2, e3, h2, ?_, h3⟩
  have all : ∀ {l : List (D × D)} {m : List (NestedKey × Addr × Value)}, KN X.K H l m → ∀ x ∈ m, (nestedKind X.prog X.w).is s.heap x.1 x.2.1 := by
    intro l m q
    induction q with
    | nil => intro x hx; exact nomatch hx
    | @cons p q ps qs hq t ih =>
      intro x hx
      rcases List.mem_cons.mp hx with e | hx
      · subst e
        exact ⟨nk_is I _ _ _ _ hq.2.1 rfl hq.1.1, hq.1.2.2⟩
      · exact ih x hx
  exact all h4
/-- its object, laid or written -/
theorem dn_obj {H' : Hp} {h' : Heap} {a : Addr} {xs : List (NestedKey × Addr × Value)} (d : h'.DictOfH (nestedKind X.prog X.w) a xs) : ∃ es ep, es.toList = xs.map (entryOfKey (nestedKind X.prog X.w)) ∧ (xs.map (·.1)).Nodup ∧ (∃ o, h'.get? a = some o) ∧ ObjOk X.prog X.w H' h' a (DNo a es ep) := by
  obtain ⟨o, es, ep, h1, h2, h3, h4, _, h5⟩ := d
  exact ⟨es, ep, h4, h5, ⟨o, h1⟩, ⟨o, h1, h2, h3⟩, ⟨o, h1⟩, fun h1' h2' ⟨o', q1, q2, q3⟩ k => ⟨o', k _ q1, q2, q3⟩⟩
theorem dn_ne {a : Addr} {es : Array DictEntry} {ep : Nat} : (∀ xs, DNo a es ep ≠ .tup xs) ∧ ∀ z v, DNo a es ep ≠ .frz z v := ⟨fun _ => nofun, fun _ _ => nofun⟩
/-- a new dict of pairs -/
def pairsD : List D → Option (List (D × D))
  | [] => some []
  | .tup [k, v] :: r => (pairsD r).map ((k, v) :: ·)
  | _ => none
def putsD (kvs : List (D × D)) : List (D × D) → List (D × D)
  | [] => kvs
  | p :: r => putsD (putD kvs p.1 p.2) r
def AllKeys (ps : List (D × D)) : Prop := ∀ p ∈ ps, ∃ k, KeyOf p.1 k
theorem KN.puts {K : PySem.W.Frag} {ps : List (D × D)} {qs : List (NestedKey × Addr × Value)} (h : KN K H ps qs) : ∀ {kvs : List (D × D)} {xs : List (NestedKey × Addr × Value)}, KN K H kvs xs → KN K H (putsD kvs ps) (PySem.storedAllH xs qs) := by
  induction h with
  | nil => intro _ _ r; exact r
  | cons c t ih =>
    obtain ⟨e, b, v, c, d⟩ := c
    intro kvs xs r
    exact ih (r.put e b c d)
theorem putsD_length : ∀ (ps kvs : List (D × D)), (putsD kvs ps).length ≤ kvs.length + ps.length
  | [], _ => Nat.le_refl _
  | p :: r, kvs => by
    have := putsD_length r (putD kvs p.1 p.2)
    have := putD_length kvs p.1 p.2
    simp only [putsD, List.length_cons]; omega

theorem pairs_at (I : Inv X pins σ H s) : ∀ {xs : List D} {vs : List V} {its : List Value} {ps : List (D × D)}, RDs X.K H xs vs → Vals vs its → pairsD xs = some ps → AllKeys ps →
    ∃ qs : List (NestedKey × Addr × Value), KN X.K H ps qs ∧ its.length = qs.length ∧ ∀ (i : Nat) (q : NestedKey × Addr × Value), qs[i]? = some q → ∃ T : Addr, its[i]? = some (Value.ref T) ∧ PySem.PairAt s.heap T (Value.ref q.2.1) q.2.2 ∧ (nestedKind X.prog X.w).is s.heap q.1 q.2.1
  | [], _, _, _, r, k, e, _ => by
    cases r; cases k
    simp only [pairsD, Option.some.injEq] at e
    subst e
    exact ⟨[], .nil, rfl, fun i q h => by simp at h⟩
  | x :: xs, _, _, _, r, k, e, ak => by
    cases r with
    | cons r1 r2 =>
      cases k with
      | cons k1 k2 =>
        unfold pairsD at e
        split at e
        · cases ‹x :: xs = []›
        · rename_i kk vv rr heq
          obtain ⟨rfl, rfl⟩ := List.cons.inj heq
          obtain ⟨ps, e1, rfl⟩ := Option.map_eq_some_iff.mp e
          obtain ⟨qs, h1, h2, h3⟩ := pairs_at I r2 k2 e1 fun p hp => ak p (List.mem_cons_of_mem _ hp)
          obtain ⟨nk, hnk⟩ := ak (kk, vv) (List.mem_cons_self)
          cases r1 with
          | tup s1 rr1 =>
            cases k1
            obtain ⟨its', rv, tup, _⟩ := I.tuple s1.sqT
            cases rr1 with
            | cons a1 a2 =>
              cases a2 with
              | cons a2 a3 =>
                cases a3
                cases rv with
                | cons b1 b2 =>
                  cases b2 with
                  | cons b2 b3 =>
                    cases b3
                    obtain ⟨z1, ⟨ys, z2⟩, z3⟩ := hnk
                    simp only at z1 z2 z3
                    subst z2
                    cases a1 with
                    | tup s2 c2 =>
                      cases b1
                      rename_i ua u2
                      refine ⟨(nk, _, _) :: qs, .cons ⟨⟨z1, ⟨ys, rfl⟩, z3⟩, .tup s2 c2, _, a2, b2⟩ h1, by simp [h2], fun i q hq => ?_⟩
                      cases i with
                      | zero =>
                        simp only [List.getElem?_cons_zero, Option.some.injEq] at hq
                        subst hq
                        exact ⟨_, rfl, .inl tup, nk_is I _ _ _ _ (.tup s2 c2) rfl z1, z3⟩
                      | succ i =>
                        simp only [List.getElem?_cons_succ] at hq
                        obtain ⟨T, e1, e2, e3⟩ := h3 i q hq
                        exact ⟨T, by simpa using e1, e2, e3⟩
        · cases e
end
end AX

set_option Elab.async false
set_option linter.all false
set_option maxRecDepth 100000
set_option maxHeartbeats 4000000
namespace AX
open PySem PySem.Spec PyProof.Rows L2
section
variable {X : Cx} {a b c e : Expr} {es : List Expr} {ta tb tc : AE} {t : AA} {pos : Pos}
/-! ### dict(pairs) -/
def cDict : AC := fun ds h R => match ds with
  | [x] => (∃ a kvs, x = .ref a ∧ h a = some (.dK kvs) ∧ ∀ p, h p = none → R (.ref p) (aup h p (.dK kvs))) ∨
    ∃ xs ps, seqOf h x = some xs ∧ pairsD xs = some ps ∧ AllKeys ps ∧ ∀ p, h p = none → R (.ref p) (aup h p (.dN (putsD [] ps)))
  | _ => False
theorem call_dict (hc : X.calm = true) (hu : X.A.units + 64 < cLine) : CJ X (.type "dict") cDict := by
  intro pins s σ H xs us Q I rv ⟨ds, h, R, rds, hh, q, c⟩
  match ds, q with
  | [x], .inl ⟨a, kvs, ex, e, q⟩ =>
    subst ex
    cases rds with
    | cons r1 r2 =>
      cases r2; cases r1
      obtain ⟨ws, e1, e2, r1⟩ := hh a _ e
      exact call_dictD pins s σ H _ us Q I rv ⟨_, _, rfl, .inl e1, fun p hp => c _ _ _ _ (.new hp) (.ref p) (hh.new (o' := .dK kvs) hp ⟨ws, upd_same, e2, r1.mono (.new hp)⟩) (q p (hh.free hp))⟩
  | [x], .inr ⟨ys, ps, e, e2, ak, q⟩ =>
    cases rds with
    | cons r1 r2 =>
      cases r2
      obtain ⟨a, vs, rfl, h2, h3⟩ := seq_at hh r1 e
      cases rv with
      | cons ru rr =>
        cases rr; cases ru
        have key : ∀ (T : String) (its : List Value) (o : Obj) (n : Nat), (T = "list" ∨ T = "tuple") → Vals vs its → s.heap.get? a = some o → o.cls = .type T → o.dict = none → o.data = .seq its.toArray n → its.length ≤ sizeLine →
            wpAny (model X.prog X.w) X.A (call (.type "dict") [.ref a]) (EP X pins σ Q) X.xe s := by
          intro T its o n hT k ho hoc hod hoda hz
          obtain ⟨qs, k1, k2, k3⟩ := pairs_at I h2 k e2 ak
          let Ts : Nat → Addr := fun i => match its[i]? with
            | some (.ref T) => T
            | _ => 0
          have hTs : ∀ (i : Nat) (T' : Addr), its[i]? = some (.ref T') → Ts i = T' := fun i T' e' => by show (match its[i]? with | some (.ref T) => T | _ => 0) = T'; rw [e']
          let pp : List (Value × Value) := qs.map fun q => (Value.ref q.2.1, q.2.2)
          have hpp : pp.length = its.length := by simp [pp, k2]
          have PI : PySem.PairItems s.heap its.toArray Ts pp := ⟨by simp [hpp], fun j kk vv hj => by
            rw [List.getElem?_map] at hj
            obtain ⟨q, hq, hq2⟩ := Option.map_eq_some_iff.mp hj
            obtain ⟨rfl, rfl⟩ := Prod.mk.inj hq2
            obtain ⟨T', e1', e2', _⟩ := k3 j q hq
            rw [hTs j T' e1']
            exact ⟨by simpa using e1', e2'⟩⟩
          have PH : PySem.PairsHaveH (nestedKind X.prog X.w) pp.length (PySem.PairRel pp) qs := ⟨by simp [pp], fun i key v rel => by
            rw [PySem.PairRel, List.getElem?_map] at rel
            obtain ⟨q, hq, hq2⟩ := Option.map_eq_some_iff.mp rel
            obtain ⟨rfl, rfl⟩ := Prod.mk.inj hq2
            exact ⟨q.1, q.2.1, hq, rfl⟩⟩
          have KS : PySem.KeysStay (nestedKind X.prog X.w) s.heap s.heap.objs.size [] qs := fun h' hk x hx => by
            obtain ⟨i, hi⟩ := List.getElem?_of_mem hx
            obtain ⟨T', _, _, e3⟩ := k3 i x hi
            refine ⟨NestedIs.at (fun b ob vs n hb _ => hk b ob (Nat.ne_of_lt (Heap.lt_size hb)) (by simp) hb) _ _ e3.1, e3.2⟩
          have fin : ∀ (h' : Heap) (tk : Nat), h'.DictOfH (nestedKind X.prog X.w) s.heap.objs.size (PySem.storedAllH [] qs) → (∀ b o, b ∉ ([] : List Addr) → s.heap.get? b = some o → h'.get? b = some o) → EP X pins σ Q (.ref s.heap.objs.size) { s with heap := h', toks := tk } := by
            intro h' tk hd kp
            have hp := I.hok.fresh (Nat.le_refl s.heap.objs.size)
            obtain ⟨es, ep, d1, d2, ⟨o', d3⟩, d4⟩ := dn_obj (X := X) (H' := H) hd
            have hsz : (s.heap.objs.size == sysModules) = false := by
              have := I.big
              exact beq_eq_false_iff_ne.mpr (Nat.ne_of_gt this)
            have hlen : ps.length = its.length := by rw [k2]; exact Paired.length k1
            have d4' : ObjOk X.prog X.w (upd H s.heap.objs.size (DNo s.heap.objs.size es ep)) h' s.heap.objs.size (DNo s.heap.objs.size es ep) := d4
            refine ⟨.ref s.heap.objs.size, upd H s.heap.objs.size (DNo s.heap.objs.size es ep), I.laid (t' := tk) (fun b o e => kp b o (by simp) e) (Nat.le_refl _) d4', rfl, ?_⟩
            refine c _ _ _ _ (.new hp) (.ref _) (hh.new (o' := .dN (putsD [] ps)) hp ?_) (q _ (hh.free hp))
            refine ⟨?_, hsz, es, ep, _, upd_same, d1, d2, KN.mono (KN.puts k1 .nil) (.new hp)⟩
            have := putsD_length ps []
            simp only [List.length_nil] at this
            omega
          rcases hT with rfl | rfl
          · exact PySem.call_dict_pairsH (PySem.PairArg.list a its.toArray Ts pp) (I.ok.hd hc) (show X.A.units + 1 + 1 + 8 < cLine by omega) ⟨⟨o, n, ho, hoc, hod, hoda⟩, PI⟩ PH KS (by rw [hpp]; exact hz) fin
          · exact PySem.call_dict_pairsH (PySem.PairArg.tuple a its.toArray Ts pp) (I.ok.hd hc) (show X.A.units + 1 + 1 + 8 < cLine by omega) ⟨⟨o, n, ho, hoc, hod, hoda⟩, PI⟩ PH KS (by rw [hpp]; exact hz) fin
        rcases h3 with ⟨_, h3⟩ | ⟨_, _, h4⟩
        · obtain ⟨its, k, ⟨o, ho, hoc, n, hoda⟩, hz⟩ := I.tuple h3.sqT
          have hod : o.dict = none := by
            rcases h3 with ⟨o', h3, d⟩ | ⟨o', its', n', h1, _, _, _, _, d⟩
            · obtain ⟨z, _⟩ := I.hok a _ h3
              rw [ho] at z; cases z; exact d
            · have := I.kIn a o' h1
              rw [ho] at this; cases this; exact d
          exact key "tuple" its o n (.inr rfl) k ho hoc hod hoda (by rw [← k.length]; exact hz)
        · obtain ⟨its, k, pl, hz⟩ := I.list (.inl (.inl h4))
          obtain ⟨o, n, ho, hoc, hod, hoda⟩ := pl
          exact key "list" its o n (.inl rfl) k ho hoc hod hoda (by rw [← k.length]; exact hz)
/-! ### methods of builtin types -/
def tyM (h : AH) : D → Option String
  | .str _ => some "str"
  | .tup _ => some "tuple"
  | .ref a => match h a with
    | some (.lst _) => some "list"
    | some (.dK _) => some "dict"
    | some (.dN _) => some "dict"
    | _ => none
  | _ => none
theorem tyM_is {pins : List (Addr × Obj)} {σ : L2.St} {H : Hp} {s : Shared} {h : AH} {x : D} {v : V} {u : Value} {T : String} (I : Inv X pins σ H s) (hh : RH X h H) (r : RD X.K H x v) (rv : RelV v u) (e : tyM h x = some T) :
    s.TypeIs u T ∧ ∀ a, u = .ref a → ∃ ob, s.heap.get? a = some ob ∧ ob.dict = none := by
  cases r with
  | str z =>
    cases e
    obtain ⟨t, rfl⟩ := rv
    exact ⟨typeIs_str s z t, fun _ e => nomatch e⟩
  | tup h3 _ =>
    cases e; cases rv
    obtain ⟨its, k, ⟨o, ho, hoc, n, hoda⟩, hz⟩ := I.tuple h3.sqT
    refine ⟨⟨o, ho, hoc⟩, fun a e => ?_⟩
    cases e
    refine ⟨o, ho, ?_⟩
    rcases h3 with ⟨o', h3, d⟩ | ⟨o', its', n', h1, _, _, _, _, d⟩
    · obtain ⟨z, _⟩ := I.hok _ _ h3
      rw [ho] at z; cases z; exact d
    · have := I.kIn _ o' h1
      rw [ho] at this; cases this; exact d
  | ref a =>
    cases rv
    unfold tyM at e
    simp only at e
    split at e
    · rename_i q
      cases e
      obtain ⟨vs, e1, r1⟩ := lstAt hh q
      obtain ⟨its, _, pl, _⟩ := I.list (.inl (.inl e1))
      refine ⟨pl.isList.typeIs, fun a e => ?_⟩
      cases e
      obtain ⟨o, n, e, c, hd, _⟩ := pl
      exact ⟨o, e, hd⟩
    · rename_i q
      cases e
      obtain ⟨ws, e1, _⟩ := hh a _ q
      obtain ⟨_, _, _, _, o, _, _, e, ex, _⟩ := I.hok a _ e1
      refine ⟨⟨o, e, ex.1⟩, fun b e2 => ?_⟩
      cases e2
      exact ⟨o, e, ex.2.1⟩
    · rename_i q
      cases e
      obtain ⟨_, _, _, _, _, o, _, _, e, ex, _⟩ := KN.dictOf I (hh a _ q)
      refine ⟨⟨o, e, ex.1⟩, fun b e2 => ?_⟩
      cases e2
      exact ⟨o, e, ex.2.1⟩
    · cases e
  | _ => cases e
abbrev AM := D → List D → AH → DK → Prop
def upM (X : Cx) (r : AM) : V → List V → Hp → VK → Prop := fun x xs H Q => ∃ dx ds h R, RD X.K H dx x ∧ RDs X.K H ds xs ∧ RH X h H ∧ r dx ds h R ∧ Cont X H R Q
abbrev MJ (X : Cx) (id : String) (r : AM) : Prop := MtR X id (upM X r)
variable {o : Expr} {to : AE} {name : Str} {apos cpos : Pos} {T id : String} {r : AM}
def aM (T : String) (r : AM) (to : AE) (t : AA) : AE := fun σ h R => to σ h fun x h1 => tyM h1 x = some T ∧ t σ h1 fun ds h2 => r x ds h2 R
def aM0 (T : String) (r : AM) (to : AE) : AE := fun σ h R => to σ h fun x h1 => tyM h1 x = some T ∧ r x [] h1 R
theorem e_m0 (pa : PlainAttrs T) (slot : Slot T name id) (hty : typeOf (.builtin id) = pure (.type "method_descriptor")) (hm : MJ X id r) (ho : EJ X o to)
    (hbase : attributeBase o name X.env (eval o X.env) = eval o X.env := by rfl) (hline : (apos.endLine == cpos.line) = true := by rfl) : EJ X (.Call (.Attribute o name apos) [] [] cpos) (aM0 T r to) := by
  refine ⟨fun pins s τ H Q I ⟨σ, h, R, hs, hh, q, c⟩ => ?_⟩
  refine wpAny_Call_method0_late hbase hline (thn (ho.run pins s τ H (fun v H1 => ∃ x h1, HExt H H1 ∧ RD X.K H1 x v ∧ RH X h1 H1 ∧ tyM h1 x = some T ∧ r x [] h1 R) I ⟨σ, h, _, hs, hh, q, fun d v h1 H1 e1 rd hh1 q1 => ⟨d, h1, e1, rd, hh1, q1⟩⟩) fun v s1 ⟨x, H1, I1, r1, d, h1, e1, rd, hh1, ty, q1⟩ => ?_)
  obtain ⟨t1, t2⟩ := tyM_is I1 hh1 rd r1 ty
  exact ⟨T, id, pa, slot, hty, t1, t2, Calls.callWith_builtin rfl (PySem.evalArgs_none (hm pins s1 τ H1 x [] v [] Q I1 r1 .nil ⟨d, [], h1, R, rd, .nil, hh1, q1, c.ext e1⟩))⟩
theorem e_m (pa : PlainAttrs T) (slot : Slot T name id) (hty : typeOf (.builtin id) = pure (.type "method_descriptor")) (hm : MJ X id r) (ho : EJ X o to) (ha : AJ X (e :: es) t)
    (hbase : attributeBase o name X.env (eval o X.env) = eval o X.env := by rfl)
    (hfew : ((backTo cpos (starEach (e :: es) X.env)).all (fun x => !x.1) && (backToKw cpos (keywordEach [] X.env)).all (fun x => x.1.isSome)
      && decide ((e :: es).length + ([] : List Keyword).length + (if ([] : List Keyword).isEmpty then 0 else 1) < 30)) = true := by rfl)
    (hline : (apos.endLine == cpos.line) = true := by rfl) (hs : starEach (e :: es) X.env = (false, eval e X.env) :: starEach es X.env := by rfl) (hplain : (backTo cpos (starEach es X.env)).any (·.1) = false := by rfl) :
    EJ X (.Call (.Attribute o name apos) (e :: es) [] cpos) (aM T r to t) := by
  refine ⟨fun pins s τ H Q I ⟨σ, h, R, hsl, hh, q, c⟩ => ?_⟩
  refine wpAny_Call_method_late hbase hfew hline rfl (thn (ho.run pins s τ H (fun v H1 => ∃ x h1, HExt H H1 ∧ RD X.K H1 x v ∧ RH X h1 H1 ∧ tyM h1 x = some T ∧ t σ h1 fun ds h2 => r x ds h2 R) I ⟨σ, h, _, hsl, hh, q, fun d v h1 H1 e1 rd hh1 q1 => ⟨d, h1, e1, rd, hh1, q1⟩⟩) fun v s1 ⟨x, H1, I1, r1, d, h1, e1, rd, hh1, ty, q1⟩ => ?_)
  obtain ⟨t1, t2⟩ := tyM_is I1 hh1 rd r1 ty
  refine ⟨T, id, pa, slot, hty, t1, t2, ?_⟩
  have hA := ha.run cpos pins s1 τ H1 (fun vs H2 => ∃ ds h2, HExt H1 H2 ∧ RDs X.K H2 ds vs ∧ RH X h2 H2 ∧ r d ds h2 R) I1 ⟨σ, h1, _, hsl.mono e1, hh1, q1, fun ds vs h2 H2 e2 rds hh2 q2 => ⟨ds, h2, e2, rds, hh2, q2⟩⟩
  rw [hs] at hA ⊢
  refine Calls.callWith_builtin (by show (false || (backTo cpos (starEach es X.env)).any (·.1)) = false; rw [hplain] <;> rfl) (Calls.evalArgs_plain ?_)
  exact thn hA fun us s2 ⟨vs, H2, I2, r2, ds, h2, e2, rds, hh2, q2⟩ => hm pins s2 τ H2 x vs v us Q I2 r1 r2 ⟨d, ds, h2, R, rd.mono e2, rds, hh2, q2, (c.ext e1).ext e2⟩
/-- append, extend, insert, pop -/
theorem RH.putL {h : AH} {H : Hp} {l : Addr} {xs ys : List D} {vs ws : List V} (hh : RH X h H) (e : H l = some (.lst vs)) (r : RDs X.K H ys ws) : HExt H (upd H l (.lst ws)) ∧ RH X (aup h l (.lst ys)) (upd H l (.lst ws)) := by
  have x : HExt H (upd H l (.lst ws)) := .write e (fun _ => nofun) fun _ _ => nofun
  exact ⟨x, RHp.put hh x ⟨ws, upd_same, r.mono x⟩ fun q z => by rw [e] at z; unfold LamX.CodeO at z; cases z⟩
def mAppend : AM := fun x ds h R => match x, ds with
  | .ref l, [y] => ∃ xs, h l = some (.lst xs) ∧ xs.length < sizeLine ∧ R .non (aup h l (.lst (xs ++ [y])))
  | _, _ => False
theorem m_append : MJ X "list.append" mAppend := by
  intro pins s σ H x xs v us Q I rx rv ⟨dx, ds, h, R, hx, rds, hh, q, c⟩
  match dx, ds, q with
  | .ref l, [y], ⟨ys, e, hz, q⟩ =>
    cases hx
    cases rds with
    | cons r1 r2 =>
      cases r2
      obtain ⟨vs, e1, r2⟩ := lstAt hh e
      obtain ⟨x1, x2⟩ := RH.putL (xs := ys) hh e1 (r2.append (RDs.one r1))
      exact mt_append pins s σ H _ _ v us Q I rx rv ⟨_, _, _, rfl, rfl, e1, by rw [← r2.length]; exact hz, c _ _ _ _ x1 .non x2 q⟩
def mExtend : AM := fun x ds h R => match x, ds with
  | .ref l, [.ref b] => ∃ xs zs, h l = some (.lst xs) ∧ h b = some (.lst zs) ∧ xs.length + zs.length ≤ sizeLine ∧ R .non (aup h l (.lst (xs ++ zs)))
  | _, _ => False
theorem m_extend : MJ X "list.extend" mExtend := by
  intro pins s σ H x xs v us Q I rx rv ⟨dx, ds, h, R, hx, rds, hh, q, c⟩
  match dx, ds, q with
  | .ref l, [.ref b], ⟨ys, zs, e, eb, hz, q⟩ =>
    cases hx
    cases rds with
    | cons r1 r2 =>
      cases r2; cases r1
      obtain ⟨vs, e1, r2⟩ := lstAt hh e
      obtain ⟨ws, e2, r3⟩ := lstAt hh eb
      obtain ⟨x1, x2⟩ := RH.putL (xs := ys) hh e1 (r2.append r3)
      exact mt_extend pins s σ H _ _ v us Q I rx rv ⟨_, _, _, _, rfl, rfl, e1, e2, by rw [← r2.length, ← r3.length]; exact hz, c _ _ _ _ x1 .non x2 q⟩
def mInsert : AM := fun x ds h R => match x, ds with
  | .ref l, [.int i, y] => ∃ xs, h l = some (.lst xs) ∧ xs.length < sizeLine ∧ 0 ≤ i ∧ i < 2 ^ 63 ∧ R .non (aup h l (.lst (xs.take i.toNat ++ [y] ++ xs.drop i.toNat)))
  | _, _ => False
theorem m_insert : MJ X "list.insert" mInsert := by
  intro pins s σ H x xs v us Q I rx rv ⟨dx, ds, h, R, hx, rds, hh, q, c⟩
  match dx, ds, q with
  | .ref l, [.int i, y], ⟨ys, e, hz, h0, h1, q⟩ =>
    cases hx
    cases rds with
    | cons r1 r2 =>
      cases r2 with
      | cons r2 r3 =>
        cases r3; cases r1
        obtain ⟨vs, e1, r4⟩ := lstAt hh e
        obtain ⟨x1, x2⟩ := RH.putL (xs := ys) hh e1 (((r4.take i.toNat).append (RDs.one r2)).append (r4.drop i.toNat))
        exact mt_insert pins s σ H _ _ v us Q I rx rv ⟨_, _, _, _, rfl, rfl, e1, by rw [← r4.length]; exact hz, h0, h1, c _ _ _ _ x1 .non x2 q⟩
/-- t.index(x), texts -/
def mIndexT : AM := fun x ds h R => match x, ds with
  | .tup xs, [.str z] => ∃ (ys : List Str) (j : Nat), xs = ys.map D.str ∧ ys[j]? = some z ∧ (∀ m, m < j → ys[m]? ≠ some z) ∧ R (.int j) h
  | _, _ => False
theorem m_indexT : MJ X "tuple.index" mIndexT := by
  intro pins s σ H x xs v us Q I rx rv ⟨dx, ds, h, R, hx, rds, hh, q, c⟩
  match dx, ds, q with
  | .tup _, [.str z], ⟨ys, j, e, h1, h2, q⟩ =>
    subst e
    cases hx with
    | tup s1 rr =>
      cases rds with
      | cons r1 r2 =>
        cases r2; cases r1
        rw [rr.strs] at s1
        exact mt_tup_index pins s σ H _ _ v us Q I rx rv ⟨_, ys, z, j, rfl, rfl, s1.sqT, h1, h2, c _ _ _ _ (.refl H) (.int _) hh q⟩
/-- l.index(x) -/
def mIndexL : AM := fun x ds h R => match x, ds with
  | .ref l, [y] => ∃ xs j z, h l = some (.lst xs) ∧ xs.all (okd 60) = true ∧ okd 60 y = true ∧ xs[j]? = some z ∧ D.eqv z y = true ∧ (∀ m z', m < j → xs[m]? = some z' → D.eqv z' y = false) ∧ R (.int (j : Nat)) h
  | _, _ => False
theorem m_indexL (hu : X.A.units + 65 < cLine) : MJ X "list.index" mIndexL := by
  intro pins s σ H x xs v us Q I rx rv ⟨dx, ds, h, R, hx, rds, hh, q, c⟩
  match dx, ds, q with
  | .ref l, [y], ⟨ys, j, z, e, o1, o2, h1, h2, h3, q⟩ =>
    cases hx
    cases rds with
    | cons r1 r2 =>
      cases r2
      obtain ⟨vs, e1, r4⟩ := lstAt hh e
      have g : ∀ (m : Nat) (z' : PyData), (toPs ys)[m]? = some z' → ∃ w, ys[m]? = some w ∧ z' = toP w := fun m z' q => by
        rw [toPs_map, List.getElem?_map] at q
        obtain ⟨w, a, b⟩ := Option.map_eq_some_iff.mp q
        exact ⟨w, a, b.symm⟩
      exact mt_indexD hu pins s σ H _ _ v us Q I rx rv ⟨_, _, toP y, toPs ys, j, toP z, rfl, rfl, .lst (.inl (.inl e1)) (RDs.dp 60 _ _ o1 r4), RD.dp 60 _ _ o2 r1, okds_shaped o1 (by decide), okd_shaped o2 (by decide),
        by rw [toPs_map, List.getElem?_map, h1]; rfl, h2, fun m z' hm q => by obtain ⟨w, a, rfl⟩ := g m z' q; exact h3 m w hm a, c _ _ _ _ (.refl H) (.int _) hh q⟩
end
end AX

set_option Elab.async false
set_option linter.all false
set_option maxRecDepth 100000
set_option maxHeartbeats 4000000
namespace AX
open PySem PySem.Spec PyProof.Rows L2
section
variable {X : Cx} {a b c e : Expr} {es : List Expr} {ta tb tc : AE} {t : AA} {pos : Pos}
/-- keys that are ints or texts -/
def KK : D → Option Key
  | .int i => some (.inl i)
  | .str x => some (.inr x)
  | _ => none
def valK (kvs : List (Key × D)) (k : Key) : Option D := (kvs.find? fun kv => decide (kv.1 = k)).map (·.2)
theorem valK_rel {K : PySem.W.Frag} {H : Hp} (k : Key) : ∀ {kvs : List (Key × D)} {ws : List (Key × V)}, ws.map (·.1) = kvs.map (·.1) → RDs K H (kvs.map (·.2)) (ws.map (·.2)) →
    (valK kvs k = none ∧ valV ws k = none) ∨ ∃ d v, valK kvs k = some d ∧ valV ws k = some v ∧ RD K H d v
  | [], [], _, _ => .inl ⟨rfl, rfl⟩
  | [], _ :: _, e, _ => by simp at e
  | _ :: _, [], e, _ => by simp at e
  | p :: kvs, q :: ws, e, r => by
    rw [List.map_cons, List.map_cons] at e
    obtain ⟨e1, e2⟩ := List.cons.inj e
    rw [List.map_cons, List.map_cons] at r
    cases r with
    | cons r1 r2 =>
      by_cases h : p.1 = k
      · right
        exact ⟨p.2, q.2, by simp [valK, List.find?_cons, h], by simp [valV, List.find?_cons, e1.trans h], r1⟩
      · have h' : ¬ q.1 = k := fun z => h (e1.symm.trans z)
        have := valK_rel k e2 r2
        simpa [valK, valV, List.find?_cons, h, h'] using this
theorem kV_of {d : D} {k : Key} {K : PySem.W.Frag} {H : Hp} {v : V} (r : RD K H d v) (e : KK d = some k) : v = kV k := by
  cases r <;> simp only [KK, Option.some.injEq, reduceCtorEq] at e
  all_goals subst e; rfl
/-- d.get(k, x), d.get(k) -/
def gotD (h : AH) (x k : D) (f : Option D → Prop) : Prop := match x with
  | .ref a => (match h a with
    | some (.dK kvs) => ∃ j, KK k = some j ∧ f (valK kvs j)
    | some (.dN kvs) => (∃ j, KeyOf k j) ∧ f (valD kvs k)
    | _ => False)
  | _ => False
theorem got_at {pins : List (Addr × Obj)} {σ : L2.St} {H : Hp} {s : Shared} {h : AH} {x k : D} {vx vk : V} {u : Value} {f : Option D → Prop} (I : Inv X pins σ H s) (hh : RH X h H) (rx : RD X.K H x vx) (rk : RD X.K H k vk) (ru : RelV vk u) (g : gotD h x k f) :
    ∃ a, vx = .ref a ∧ (a == sysModules) = false ∧ s.TypeIs (.ref a) "dict" ∧ ((∃ kvs ws j, H a = some (.dK ws) ∧ vk = kV j ∧ f (valK kvs j) ∧ ((valK kvs j = none ∧ valV ws j = none) ∨ ∃ d v, valK kvs j = some d ∧ valV ws j = some v ∧ RD X.K H d v)) ∨
      ∃ b kvs j xs, u = .ref b ∧ (nestedKind X.prog X.w).is s.heap j b ∧ s.heap.DictOfH (nestedKind X.prog X.w) a xs ∧ f (valD kvs k) ∧ RelDV X.K H (valD kvs k) ((atKey xs j).map (·.2))) := by
  cases rx with
  | ref a =>
    unfold gotD at g
    simp only at g
    split at g
    · rename_i kvs q
      obtain ⟨j, e, g⟩ := g
      obtain ⟨ws, e1, e2, r1⟩ := hh a _ q
      obtain ⟨_, hd, vs, rel, dd⟩ := dk_of I.hok e1
      exact ⟨a, rfl, hd, dd.typeIs, .inl ⟨kvs, ws, j, e1, kV_of rk e, g, valK_rel j e2 r1⟩⟩
    · rename_i kvs q
      obtain ⟨⟨j, kj⟩, g⟩ := g
      obtain ⟨_, hd, _, xs, kn, hm⟩ := KN.dictOf I (hh a _ q)
      obtain ⟨kj1, ⟨ys, rfl⟩, kj3⟩ := kj
      cases rk with
      | tup s1 r1 =>
        cases ru
        exact ⟨a, rfl, hd, hm.typeIs, .inr ⟨_, kvs, j, xs, rfl, ⟨nk_is I _ _ _ _ (.tup s1 r1) rfl kj1, kj3⟩, hm, g, kn.val ⟨kj1, ⟨ys, rfl⟩, kj3⟩⟩⟩
    · exact g.elim
  | _ => exact g.elim
theorem RelDV.getD {K : PySem.W.Frag} {H : Hp} {o : Option D} {u : Option Value} {d : D} {v : V} {u' : Value} (r : RelDV K H o u) (rd : RD K H d v) (ru : RelV v u') : ∃ w, RD K H (o.getD d) w ∧ RelV w (u.getD u') := by
  cases o <;> cases u <;> first | exact False.elim r | exact ⟨_, rd, ru⟩ | exact r
def mGet : AM := fun x ds h R => match ds with
  | [k, z] => gotD h x k fun o => R (o.getD z) h
  | [k] => gotD h x k fun o => R (o.getD .non) h
  | _ => False
theorem m_get (hu : X.A.units + 64 < cLine) : MJ X "dict.get" mGet := by
  intro pins s σ H x xs v us Q I rx rv ⟨dx, ds, h, R, hx, rds, hh, q, c⟩
  match ds, q with
  | [k, z], q =>
    cases rds with
    | cons r1 r2 =>
      cases r2 with
      | cons r2 r3 =>
        cases r3
        cases rv with
        | cons u1 rv =>
          cases rv with
          | cons u2 rv =>
            cases rv
            obtain ⟨a, rfl, hd, ty, g⟩ := got_at I hh hx r1 u1 (show gotD h dx k (fun o => R (o.getD z) h) from q)
            cases rx
            rcases g with ⟨kvs, ws, j, e, rfl, g, val⟩ | ⟨b, kvs, j, ys, rfl, kb, hm, g, val⟩
            · refine L2.d_get2 (show X.A.units + 1 < cLine by omega) I (DGet.k e) u1 u2 fun w' s' I' rw' => ?_
              rcases val with ⟨v1, v2⟩ | ⟨d, v, v1, v2, r⟩
              · rw [v1] at g; rw [v2] at rw'
                exact ⟨_, H, I', rw', c _ _ _ _ (.refl H) r2 hh g⟩
              · rw [v1] at g; rw [v2] at rw'
                exact ⟨_, H, I', rw', c _ _ _ _ (.refl H) r hh g⟩
            · obtain ⟨w, w1, w2⟩ := val.getD r2 u2
              exact call_meetsIn PySem.F.slot_dict_get hm.typeIs PySem.F.entry_dict_get (PySem.F.args_dict_get_3 _ _ _) (meetsH_dict_get_default (nestedKind X.prog X.w) a b hd _) ⟨show X.A.units + 1 + 8 < cLine by omega, j, ys, kb, hm, ⟨w, H, I.tok _, w2, c _ _ _ _ (.refl H) w1 hh g⟩⟩
  | [k], q =>
    cases rds with
    | cons r1 r2 =>
      cases r2
      cases rv with
      | cons u1 rv =>
        cases rv
        obtain ⟨a, rfl, hd, ty, g⟩ := got_at I hh hx r1 u1 (show gotD h dx k (fun o => R (o.getD .non) h) from q)
        cases rx
        rcases g with ⟨kvs, ws, j, e, rfl, g, val⟩ | ⟨b, kvs, j, ys, rfl, kb, hm, g, val⟩
        · refine L2.d_get1 (show X.A.units + 1 < cLine by omega) I (DGet.k e) u1 fun w' s' I' rw' => ?_
          rcases val with ⟨v1, v2⟩ | ⟨d, v, v1, v2, r⟩
          · rw [v1] at g; rw [v2] at rw'
            exact ⟨_, H, I', rw', c _ _ _ _ (.refl H) .non hh g⟩
          · rw [v1] at g; rw [v2] at rw'
            exact ⟨_, H, I', rw', c _ _ _ _ (.refl H) r hh g⟩
        · obtain ⟨w, w1, w2⟩ := val.getD (d := .non) (v := .non) (u' := .none) .non rfl
          exact call_meetsIn PySem.F.slot_dict_get hm.typeIs PySem.F.entry_dict_get (PySem.F.args_dict_get_2 _ _) (meetsH_dict_get (nestedKind X.prog X.w) a b hd) ⟨show X.A.units + 1 + 8 < cLine by omega, j, ys, kb, hm, ⟨w, H, I.tok _, w2, c _ _ _ _ (.refl H) w1 hh g⟩⟩
/-! ### * -/
theorem o_mul : OJ X (binaryOp .Mult) rMul := by
  intro pins s σ H x y v u Q I rx ry ⟨dx, dy, h, R, hx, hy, hh, q, c⟩
  cases dx <;> cases dy <;> first | exact False.elim q | skip
  · cases hx; cases hy
    exact op_mul pins s σ H _ _ v u Q I rx ry ⟨_, _, rfl, rfl, q.1, c _ _ _ _ (.refl H) (.int _) hh q.2⟩
  · cases hy
    cases hx with
    | tup hT r0 =>
      obtain ⟨hne, h1, h2, hz, q⟩ := q
      cases rx
      obtain ⟨t, rfl⟩ := ry
      rename_i xs k l vs
      obtain ⟨its, r, ⟨⟨cls, dd, data, sl⟩, ho, hc, n, hd⟩, hs⟩ := I.tuple hT.sqT
      simp only at hc hd
      subst hc hd
      have hle : its.length = xs.length := by rw [r0.length]; exact r.length.symm
      have hn : its ≠ [] := fun e => hne (by
        rw [e] at hle
        exact List.eq_nil_of_length_eq_zero hle.symm)
      have hi : its.toArray.isEmpty = false := by
        cases its with
        | nil => exact absurd rfl hn
        | cons a b => rfl
      have hsz0 : its.toArray.size = xs.length := by rw [List.size_toArray, hle]
      have hm : ((its.toArray.size : Nat) : Int) * k ≤ 1000000 := by
        rw [hsz0]
        have a1 : ((xs.length : Nat) : Int) * k ≤ 1000 * k := Int.mul_le_mul_of_nonneg_right (by omega) (by omega)
        omega
      have flen : (List.replicate k.toNat its).flatten.length ≤ sizeLine := by
        rw [PyProof.Rows.lm_len_rep_flat, hle, sizeLine_eq]
        have a1 : k.toNat * xs.length ≤ 1000 * 1000 := Nat.mul_le_mul (by omega) hz
        omega
      have c0 : (decide (k < -(2 ^ 63)) || decide (k ≥ 2 ^ 63)) = false := by
        rw [decide_eq_false (by omega), decide_eq_false (by omega)] <;> rfl
      have c1 : (its.toArray.isEmpty || k == 1) = false := by
        rw [hi, Bool.false_or]
        exact beq_eq_false_iff_ne.mpr (by omega)
      have c2 : (decide (k ≤ 0) || its.toArray.isEmpty) = false := by
        rw [hi, Bool.or_false]
        exact decide_eq_false (by omega)
      have c4 : Builtin.Tuple.tupleTooMany (((its.toArray.size : Nat) : Int) * k) = false := by
        unfold Builtin.Tuple.tupleTooMany
        rw [sizeLine_eq]
        exact decide_eq_false (by omega)
      refine wpAny_binaryOp_repeat_ref (T := "tuple") (U := "int") (by decide) ⟨_, ho, rfl⟩ (fun s' => typeIs_int s' k t) noFill_tuple_mul F.fills_int_mul F.slot_int_rmul repeat_tuple F.slot_int_index.lookup
        (call_meets F.slot_int_rmul (typeIs_int s k t) F.entry_int_rmul (F.args_int_rmul_2 _ _) (int_rmul_tuple k t l its.toArray n dd sl)
          ⟨ho, rfl, ⟨_, ho, rfl⟩, call_meets F.slot_tuple_mul ⟨_, ho, rfl⟩ F.entry_tuple_mul (F.args_tuple_mul_2 _ _) (tuple_mulW l its.toArray n dd sl k t c0 c1 c2 (by omega) c4 (by rw [size_rep, List.size_toArray]; exact flen)) ⟨ho, ?_⟩⟩)
      rw [size_rep]
      obtain ⟨I2, hp, nd⟩ := newTup I (r.rep k.toNat) (by rw [PyProof.Rows.lm_len_rep_flat] at flen ⊢; rw [← r.length] at flen; exact flen)
      exact ⟨.ref _, _, I2, rfl, c _ _ _ _ (.new hp) (.tup nd ((RDs.rep r0 k.toNat).mono (.new hp))) (hh.junk hp) q⟩
  · cases hx; cases hy
    obtain ⟨xs, e, h1, h2, h3, q⟩ := q
    obtain ⟨vs, e1, r1⟩ := lstAt hh e
    exact op_rep pins s σ H _ _ v u Q I rx ry ⟨_, _, _, rfl, rfl, e1, h1, h2, by rw [← r1.length]; exact h3, fun p hp => newLst hh hp (RDs.rep r1 _) c q⟩
end
end AX

set_option Elab.async false
set_option linter.all false
set_option maxRecDepth 100000
set_option maxHeartbeats 4000000
namespace AX
open PySem PySem.Spec PyProof.Rows L2
/-! ### forgetting -/
def SubS (σ0 σ : ASt) : Prop := σ0.length = σ.length ∧ ∀ (i : Nat) (d : D), σ0[i]? = some (some d) → σ[i]? = some (some d)
theorem SubS.refl (σ : ASt) : SubS σ σ := ⟨rfl, fun _ _ e => e⟩
theorem RS.weak {K : PySem.W.Frag} {H : Hp} {σ σ0 : ASt} {τ : L2.St} (r : RS K H σ τ) (s : SubS σ0 σ) : RS K H σ0 τ := ⟨s.1.trans r.1, fun i d e => r.2 i d (s.2 i d e)⟩
section
variable {X : Cx} {e : Expr} {ta : AE}
def aFg (t : AE) : AE := fun σ h R => t σ h fun d h1 => ∃ h0, Sub h0 h1 ∧ R d h0
theorem e_fg (he : EJ X e ta) : EJ X e (aFg ta) := he.imp fun τ H Q _ ⟨σ, h, R, hs, hh, q, c⟩ => ⟨σ, h, _, hs, hh, q, fun d v h1 H1 e1 rd hh1 ⟨h0, s, q1⟩ => c d v h0 H1 e1 rd (RHp.weak hh1 s) q1⟩
end
/-! ### statements -/
structure AEnds where
  nx : ASt → AH → Prop
  rt : DK
  bk : ASt → AH → Prop := fun _ _ => False
  ct : ASt → AH → Prop := fun _ _ => False
abbrev AS := AEnds → ASt → AH → Prop
abbrev ContS (X : Cx) (H : Hp) (R : ASt → AH → Prop) (Q : L2.St → Hp → Prop) : Prop := ∀ σ' h' τ' H', HExt H H' → RS X.K H' σ' τ' → RH X h' H' → R σ' h' → Q τ' H'
structure EndOk (X : Cx) (H : Hp) (E : AEnds) (D : Ends) : Prop where
  nx : ContS X H E.nx D.nx
  rt : Cont X H E.rt D.rt
  bk : ContS X H E.bk D.bk
  ct : ContS X H E.ct D.ct
theorem ContS.ext {X : Cx} {H H1 : Hp} {R : ASt → AH → Prop} {Q : L2.St → Hp → Prop} (c : ContS X H R Q) (x : HExt H H1) : ContS X H1 R Q := fun σ h τ H' e => c σ h τ H' (x.trans e)
theorem EndOk.ext {X : Cx} {H H1 : Hp} {E : AEnds} {D : Ends} (c : EndOk X H E D) (x : HExt H H1) : EndOk X H1 E D := ⟨ContS.ext c.nx x, c.rt.ext x, ContS.ext c.bk x, ContS.ext c.ct x⟩
def upS (X : Cx) (t : AS) : TS := fun D τ H => ∃ σ h E, RS X.K H σ τ ∧ RH X h H ∧ t E σ h ∧ EndOk X H E D
abbrev SJ (X : Cx) (st : Stmt) (t : AS) : Prop := PS X st (upS X t)
abbrev BJ (X : Cx) (sts : List Stmt) (t : AS) : Prop := PSs X sts (upS X t)
section
variable {X : Cx} {a b c e : Expr} {es : List Expr} {ta tb tc : AE} {t u : AS} {tA : AT} {pos : Pos} {st : Stmt} {rest : List Stmt}
def aNext : AS := fun E σ h => E.nx σ h
def aSeq (t u : AS) : AS := fun E σ h => t { E with nx := u E } σ h
theorem b_nil : BJ X [] aNext := pss_nil.imp fun D τ H _ ⟨σ, h, E, hs, hh, q, k⟩ => k.nx σ h τ H (.refl H) hs hh q
theorem b_cons (h1 : SJ X st t) (h2 : BJ X rest u) : BJ X (st :: rest) (aSeq t u) := (pss_cons h1 h2).imp fun D τ H _ ⟨σ, h, E, hs, hh, q, k⟩ =>
  ⟨σ, h, { E with nx := u E }, hs, hh, q, ⟨fun σ' h' τ' H' e1 hs' hh' q' => ⟨σ', h', E, hs', hh', q', k.ext e1⟩, k.rt, k.bk, k.ct⟩⟩
theorem b_one (h1 : SJ X st t) : BJ X [st] t := pss_one h1
def aRet (te : AE) : AS := fun E σ h => te σ h E.rt
theorem s_ret (he : EJ X e ta) : SJ X (.Return (some e) pos) (aRet ta) := (ps_ret he).imp fun D τ H _ ⟨σ, h, E, hs, hh, q, k⟩ => ⟨σ, h, _, hs, hh, q, k.rt⟩
def aRetN : AS := fun E _ h => E.rt .non h
theorem s_retN : SJ X (.Return none pos) aRetN := ps_retN.imp fun D τ H _ ⟨σ, h, E, hs, hh, q, k⟩ => k.rt .non .non h H (.refl H) .non hh q
def aIfS (c : AT) (t u : AS) : AS := fun E σ h => c σ h fun b h1 => if b = true then t E σ h1 else u E σ h1
theorem s_if {A B : List Stmt} (hc : TJ X c tA) (ha : BJ X A t) (hb : BJ X B u) : SJ X (.If c A B pos) (aIfS tA t u) := (ps_if hc ha hb).imp fun D τ H _ ⟨σ, h, E, hs, hh, q, k⟩ =>
  ⟨σ, h, _, hs, hh, q, fun b h1 H1 e1 hh1 q1 => by
    cases b with
    | true => exact iteT ⟨σ, h1, E, hs.mono e1, hh1, by simpa using q1, k.ext e1⟩
    | false => exact iteF ⟨σ, h1, E, hs.mono e1, hh1, by simpa using q1, k.ext e1⟩⟩
def aDrop (te : AE) : AS := fun E σ h => te σ h fun _ h1 => E.nx σ h1
theorem s_expr (he : EJ X e ta) (hs : swapsWith e none pos.line X.env = pure false := by rfl) : SJ X (.Expr e pos) (aDrop ta) := (ps_expr he hs).imp fun D τ H _ ⟨σ, h, E, hs, hh, q, k⟩ =>
  ⟨σ, h, _, hs, hh, q, fun d v h1 H1 e1 rd hh1 q1 => k.nx σ h1 τ H1 e1 (hs.mono e1) hh1 q1⟩
def aBreak : AS := fun E σ h => E.bk σ h
def aCont : AS := fun E σ h => E.ct σ h
theorem s_pass : SJ X (.Pass pos) aNext := ps_pass.imp fun D τ H _ ⟨σ, h, E, hs, hh, q, k⟩ => k.nx σ h τ H (.refl H) hs hh q
theorem s_break : SJ X (.Break pos) aBreak := ps_break.imp fun D τ H _ ⟨σ, h, E, hs, hh, q, k⟩ => k.bk σ h τ H (.refl H) hs hh q
theorem s_continue : SJ X (.Continue pos) aCont := ps_continue.imp fun D τ H _ ⟨σ, h, E, hs, hh, q, k⟩ => k.ct σ h τ H (.refl H) hs hh q
def aNever : AS := fun _ _ _ => False
theorem b_never {sts : List Stmt} : BJ X sts aNever := pss_never.imp fun D τ H _ ⟨_, _, _, _, _, q, _⟩ => q
def aSet (i : Nat) (te : AE) : AS := fun E σ h => te σ h fun d h1 => E.nx (σ.set i (some d)) h1
theorem up_set {i : Nat} {D : Ends} {τ : L2.St} {H : Hp} (q : upS X (aSet i ta) D τ H) : tAsg (upE X ta) (gName i) D τ H := by
  obtain ⟨σ, h, E, hs, hh, q, k⟩ := q
  exact ⟨σ, h, _, hs, hh, q, fun d v h1 H1 e1 rd hh1 q1 => k.nx _ h1 _ H1 e1 ((hs.mono e1).set i rd) hh1 q1⟩
theorem s_set {i : Nat} {x : Str} {pos' : Pos} (hN : X.N.Nodup) (hi : X.N[i]? = some x) (hx : Loc X.env.scope x) (he : EJ X e ta) (hs : swapsWith e (some (.Name x pos')) pos.line X.env = pure false := by rfl) (hf : X.fn x = true ∨ X.env.scope.names.lookup x = some .local := by first | exact .inl rfl | exact .inr rfl | assumption) :
    SJ X (.Assign [.Name x pos'] e pos) (aSet i ta) := (ps_set hN hi hx he hs hf).imp fun _ _ _ _ q => up_set q
/-- a, b = x, y -/
def aPar (i j : Nat) (ta : AA) : AS := fun E σ h => ta σ h fun ds h1 => match ds with
  | [d, e] => E.nx ((σ.set i (some d)).set j (some e)) h1
  | _ => False
theorem s_par {i j : Nat} {x y : Str} {ta : AA} {px py pt : Pos} {kt k2 pt2} (hc : X.calm = true) (hN : X.N.Nodup) (hi : X.N[i]? = some x) (hj : X.N[j]? = some y) (hij : i ≠ j)
    (hx : X.env.scope.names.lookup x = some .local) (hy : X.env.scope.names.lookup y = some .local) (ha : AJ X [a, b] ta)
    (hw : swappedStores [.Tuple [.Name x px, .Name y py] kt pt] (.Tuple [a, b] k2 pt2) X.env = pure (some [x, y]))
    (hs : swapsWithSole [.Tuple [.Name x px, .Name y py] kt pt] (.Tuple [a, b] k2 pt2) pos.line X.env = pure false := by rfl) :
    SJ X (.Assign [.Tuple [.Name x px, .Name y py] kt pt] (.Tuple [a, b] k2 pt2) pos) (aPar i j ta) := (ps_par hc hN hi hj hij hx hy ha hw hs).imp fun D τ H _ ⟨σ, h, E, hs, hh, q, k⟩ =>
  ⟨σ, h, _, hs, hh, q, fun ds vs h1 H1 e1 rds hh1 q1 => by
    match ds, q1 with
    | [d, e], q1 =>
      cases rds with
      | cons r1 r2 =>
        cases r2 with
        | cons r2 r3 =>
          cases r3
          exact ⟨_, _, rfl, k.nx _ h1 _ H1 e1 (((hs.mono e1).set i r1).set j r2) hh1 q1⟩⟩
/-! ### targets -/
/-- the slots but vs stay -/
def Fr (vs : List Nat) (τ τ' : L2.St) : Prop := τ'.length = τ.length ∧ ∀ j, j ∉ vs → τ'[j]? = τ[j]?
theorem Fr.refl (vs : List Nat) (τ : L2.St) : Fr vs τ τ := ⟨rfl, fun _ _ => rfl⟩
theorem Fr.set (i : Nat) (τ : L2.St) (v : Option V) : Fr [i] τ (τ.set i v) := ⟨by simp, fun j hj => List.getElem?_set_ne (by simpa using Ne.symm (by simpa using hj))⟩
theorem Fr.append {vs us : List Nat} {a b c : L2.St} (x : Fr vs a b) (y : Fr us b c) : Fr (vs ++ us) a c := ⟨y.1.trans x.1, fun j hj => (y.2 j fun h => hj (List.mem_append_right _ h)).trans (x.2 j fun h => hj (List.mem_append_left _ h))⟩
/-- as a value, or as a pair just made -/
def RDL (K : PySem.W.Frag) (H : Hp) (d : D) (v : V) : Prop := RD K H d v ∨ ∃ xs a vs, d = .tup xs ∧ v = .ref a ∧ SqT K H a vs ∧ RDs K H xs vs
abbrev AG := D → ASt → AH → (ASt → AH → Prop) → Prop
abbrev AGs := List D → ASt → AH → (ASt → AH → Prop) → Prop
def RDo (l : Bool) (K : PySem.W.Frag) (H : Hp) (d : D) (v : V) : Prop := match l with
  | true => RDL K H d v
  | false => RD K H d v
theorem RDo.of {l : Bool} {K : PySem.W.Frag} {H : Hp} {d : D} {v : V} (r : RD K H d v) : RDo l K H d v := by cases l; exact r; exact .inl r
def upG (X : Cx) (l : Bool) (vs : List Nat) (g : AG) : TG := fun v τ H Q => ∃ d σ h R, RDo l X.K H d v ∧ RS X.K H σ τ ∧ RH X h H ∧ g d σ h R ∧ ∀ σ' h' τ' H', HExt H H' → RS X.K H' σ' τ' → RH X h' H' → Fr vs τ τ' → R σ' h' → Q τ' H'
def upGs (X : Cx) (vs : List Nat) (g : AGs) : TGs := fun us τ H Q => ∃ ds σ h R, RDs X.K H ds us ∧ RS X.K H σ τ ∧ RH X h H ∧ g ds σ h R ∧ ∀ σ' h' τ' H', HExt H H' → RS X.K H' σ' τ' → RH X h' H' → Fr vs τ τ' → R σ' h' → Q τ' H'
/-- l: a pair just made will do -/
abbrev GJ (X : Cx) (l : Bool) (tg : Expr) (vs : List Nat) (g : AG) : Prop := PG X tg (upG X l vs g)
abbrev GsJ (X : Cx) (tgs : List Expr) (vs : List Nat) (g : AGs) : Prop := PGs X tgs (upGs X vs g)
theorem PG.imp {tg : Expr} {t t' : TG} (h : PG X tg t') (f : ∀ v τ H Q, t v τ H Q → t' v τ H Q) : PG X tg t := ⟨fun pins s σ H v u Q I r q => h.run pins s σ H v u Q I r (f _ _ _ _ q)⟩
theorem PGs.imp {tg : List Expr} {t t' : TGs} (h : PGs X tg t') (f : ∀ v τ H Q, t v τ H Q → t' v τ H Q) : PGs X tg t := ⟨fun pins s σ H v u Q I r q => h.run pins s σ H v u Q I r (f _ _ _ _ q)⟩
def aName (i : Nat) : AG := fun d σ h R => R (σ.set i (some d)) h
theorem g_name {i : Nat} {x : Str} (hN : X.N.Nodup) (hi : X.N[i]? = some x) (hx : Loc X.env.scope x) (hf : X.fn x = true ∨ X.env.scope.names.lookup x = some .local := by first | exact .inl rfl | exact .inr rfl | assumption) : GJ X false (.Name x pos) [i] (aName i) :=
  PG.imp (pg_name hN hi hx hf) fun v τ H Q ⟨d, σ, h, R, rd, hs, hh, q, k⟩ => k _ h _ H (.refl H) (hs.set i rd) hh (Fr.set i τ _) q
def aGNil : AGs := fun ds σ h R => match ds with
  | [] => R σ h
  | _ => False
def aGCons (g : AG) (gs : AGs) : AGs := fun ds σ h R => match ds with
  | d :: r => g d σ h fun σ' h' => gs r σ' h' R
  | [] => False
variable {g : AG} {gs : AGs} {vs us : List Nat}
theorem gs_nil : GsJ X [] [] aGNil := PGs.imp pgs_nil fun v τ H Q ⟨ds, σ, h, R, rd, hs, hh, q, k⟩ => by
  match ds, q with
  | [], q => cases rd; exact ⟨rfl, k _ h _ H (.refl H) hs hh (Fr.refl _ τ) q⟩
theorem gs_cons (h1 : GJ X false e vs g) (h2 : GsJ X es us gs) (hs : (assignEach (e :: es) X.env).map (·.2) = assign e X.env :: (assignEach es X.env).map (·.2) := by rfl) : GsJ X (e :: es) (vs ++ us) (aGCons g gs) :=
  PGs.imp (pgs_cons h1 h2 hs) fun v τ H Q ⟨ds, σ, h, R, rd, hs, hh, q, k⟩ => by
    match ds, q with
    | d :: ds, q =>
      cases rd with
      | cons r1 r2 => exact ⟨_, _, rfl, d, σ, h, _, r1, hs, hh, q, fun σ' h' τ' H' e1 hs' hh' f1 q' => ⟨ds, σ', h', R, r2.mono e1, hs', hh', q', fun σ2 h2 τ2 H2 e2 hs2 hh2 f2 q2 => k _ _ _ _ (e1.trans e2) hs2 hh2 (f1.append f2) q2⟩⟩
def aGTup (n : Nat) (gs : AGs) : AG := fun d σ h R => match d with
  | .tup xs => xs.length = n ∧ gs xs σ h R
  | _ => False
theorem g_tup {l : Bool} {k : Nat} {n : Nat} (hc : X.calm = true) (h : GsJ X es vs gs) (hn : (assignEach es X.env).length = n := by rfl) (hst : (assignEach es X.env).findIdx? (·.1) = none := by rfl) : GJ X l (.Tuple es k pos) vs (aGTup n gs) :=
  PG.imp (pg_tup hc h hn hst) fun v τ H Q ⟨d, σ, h, R, rd, hs, hh, q, k⟩ => by
    have key : ∀ xs, d = .tup xs → ∃ a vs, v = .ref a ∧ SqT X.K H a vs ∧ RDs X.K H xs vs := by
      rintro xs rfl
      have rd' : RDL X.K H (.tup xs) v := by
        cases l with
        | false => exact .inl rd
        | true => exact rd
      rcases rd' with rd | ⟨_, a, vs, h1, h2, h3, h4⟩
      · cases rd with
        | tup s1 r1 => exact ⟨_, _, rfl, s1.sqT, r1⟩
      · cases h1; exact ⟨a, vs, h2, h3, h4⟩
    cases d <;> first | exact False.elim q | skip
    obtain ⟨a, vs, rfl, s1, r1⟩ := key _ rfl
    exact ⟨a, vs, rfl, s1, by rw [← r1.length]; exact q.1, _, σ, h, R, r1, hs, hh, q.2, k⟩
/-- target = value -/
def aAsg (te : AE) (g : AG) : AS := fun E σ h => te σ h fun d h1 => g d σ h1 E.nx
theorem s_asg {tg : Expr} (he : EJ X e ta) (hg : GJ X false tg vs g) (hs : swapsWithSole [tg] e pos.line X.env = pure false := by rfl) (hw : swappedStores [tg] e X.env = pure none := by rfl)
    (h1 : (assignEach [tg] X.env).map (·.2) = [assign tg X.env] := by rfl) : SJ X (.Assign [tg] e pos) (aAsg ta g) := (ps_asg he hg hs hw h1).imp fun D τ H _ ⟨σ, h, E, hs, hh, q, k⟩ =>
  ⟨σ, h, _, hs, hh, q, fun d v h1 H1 e1 rd hh1 q1 => ⟨d, σ, h1, E.nx, rd, hs.mono e1, hh1, q1, fun σ' h' τ' H' e2 hs' hh' _ q' => k.nx _ _ _ _ (e1.trans e2) hs' hh' q'⟩⟩
/-- o[i] = v of a list -/
def aGSub (to ti : AE) : AG := fun d σ h R => to σ h fun o h1 => ti σ h1 fun i h2 => match o, i with
  | .ref a, .int k => (match h2 a with
    | some (.lst xs) => (match ixN xs.length k with
      | some j => R σ (aup h2 a (.lst (xs.set j d)))
      | none => False)
    | _ => False)
  | _, _ => False
theorem g_sub {o i : Expr} {to ti : AE} (ho : EJ X o to) (hi : EJ X i ti)
    (ha : ∀ v, assign (.Subscript o i pos) X.env v = (do
      let ov ← holding [v] (eval o X.env)
      let iv ← holding [v, ov] (eval i X.env)
      standAt pos
      holding [v, ov, iv] (setItem ov iv v)
      release [v, ov, iv] []) := by intro _; rfl) : GJ X false (.Subscript o i pos) [] (aGSub to ti) :=
  PG.imp (pg_sub ho hi set_list ha) fun v τ H Q ⟨d, σ, h, R, rd, hs, hh, q, k⟩ =>
    ⟨σ, h, _, hs, hh, q, fun od ov h1 H1 e1 ro hh1 q1 => ⟨σ, h1, _, hs.mono e1, hh1, q1, fun id iv h2 H2 e2 ri hh2 q2 => by
      cases od <;> cases id <;> first | exact False.elim q2 | skip
      cases ro; cases ri
      simp only at q2
      split at q2
      · rename_i e
        obtain ⟨ws, f1, r1⟩ := lstAt hh2 e
        split at q2
        · rename_i j ej
          obtain ⟨x1, x2⟩ := RH.putL (xs := []) hh2 f1 (RDs.set ((rd.mono e1).mono e2) j r1)
          exact ⟨_, _, _, _, rfl, rfl, f1, by rw [← r1.length]; exact ej, k _ _ _ _ ((e1.trans e2).trans x1) (((hs.mono e1).mono e2).mono x1) x2 (Fr.refl _ τ) q2⟩
        · exact q2.elim
      · exact q2.elim⟩⟩
end
end AX

set_option Elab.async false
set_option linter.all false
set_option maxRecDepth 100000
set_option maxHeartbeats 4000000
namespace AX
open PySem PySem.Spec PyProof.Rows L2
section
variable {X : Cx} {a b c e : Expr} {es : List Expr} {ta tb tc : AE} {t u : AS} {tA : AT} {pos p : Pos} {st : Stmt} {rest : List Stmt} {tg : Expr} {g : AG} {vs us : List Nat}
/-! ### while -/
/-- closed under forgetting -/
def Fgt (W : ASt → AH → Prop) (σ : ASt) (h : AH) : Prop := ∃ σ0 h0, SubS σ0 σ ∧ Sub h0 h ∧ W σ0 h0
theorem Fgt.of {W : ASt → AH → Prop} {σ : ASt} {h : AH} (w : W σ h) : Fgt W σ h := ⟨σ, h, .refl σ, .refl h, w⟩
def aWhile (c : AT) (tb : AS) : AS := fun E σ h => ∃ W : Nat → ASt → AH → Prop, (∃ m, W m σ h) ∧ ∀ m σ h, W m σ h →
  c σ h fun b h1 => if b = true then tb { E with nx := Fgt fun σ' h' => ∃ m', m' < m ∧ W m' σ' h', ct := Fgt fun σ' h' => ∃ m', m' < m ∧ W m' σ' h', bk := E.nx } σ h1 else E.nx σ h1
theorem s_while {body : List Stmt} (hp : PassesOwn (model X.prog X.w) X.A X.env X.xe) (hc : TJ X c tA) (hb : BJ X body t) : SJ X (.While c body [] pos) (aWhile tA t) := (ps_while hp hc hb).imp fun D τ H _ ⟨σ, h, E, hs, hh, q, k⟩ => by
  obtain ⟨W, ⟨m0, w0⟩, q⟩ := q
  refine ⟨fun m τ' H' => ∃ σ' h', HExt H H' ∧ RS X.K H' σ' τ' ∧ RH X h' H' ∧ W m σ' h', ⟨m0, σ, h, .refl H, hs, hh, w0⟩, fun m τ1 H1 ⟨σ1, h1, e1, hs1, hh1, w1⟩ => ?_⟩
  refine ⟨σ1, h1, _, hs1, hh1, q m σ1 h1 w1, fun b h2 H2 e2 hh2 q2 => ?_⟩
  cases b with
  | false => exact iteF (k.nx _ _ _ _ (e1.trans e2) (hs1.mono e2) hh2 (by simpa using q2))
  | true =>
    refine iteT ⟨fun τ' H' => ∃ m', m' < m ∧ ∃ σ' h', HExt H H' ∧ RS X.K H' σ' τ' ∧ RH X h' H' ∧ W m' σ' h', fun τ' H' z => z, ?_⟩
    rw [if_pos rfl] at q2
    have again : ∀ σ' h' τ' H', HExt H2 H' → RS X.K H' σ' τ' → RH X h' H' → Fgt (fun σ' h' => ∃ m', m' < m ∧ W m' σ' h') σ' h' → ∃ m', m' < m ∧ ∃ σ' h', HExt H H' ∧ RS X.K H' σ' τ' ∧ RH X h' H' ∧ W m' σ' h' := by
      rintro σ' h' τ' H' e3 hs3 hh3 ⟨σ0, h0, s1, s2, m', hm, w⟩
      exact ⟨m', hm, σ0, h0, (e1.trans e2).trans e3, hs3.weak s1, RHp.weak hh3 s2, w⟩
    exact ⟨σ1, h2, _, hs1.mono e2, hh2, q2, ⟨fun σ' h' τ' H' e3 => again σ' h' τ' H' e3, (k.ext (e1.trans e2)).rt, ContS.ext k.nx (e1.trans e2), fun σ' h' τ' H' e3 => again σ' h' τ' H' e3⟩⟩
/-! ### what is walked -/
abbrev AItems := AH → Option (List D)
abbrev AI := ASt → AH → (AItems → AH → Prop) → Prop
def Good (X : Cx) (H0 : Hp) (l : Bool) (J : It) (s : AItems) : Prop := ∀ (i : Nat) (h : AH) (H : Hp) (xs : List D), HExt H0 H → RH X h H → s h = some xs →
  (xs[i]? = none → J.stop i H) ∧ ∀ d, xs[i]? = some d → J.go i H ∧ ∀ v H', J.yld i H v H' → HExt H H' ∧ RH X h H' ∧ RDo l X.K H' d v
def upI (X : Cx) (l : Bool) (ti : AI) : TI := fun τ H R => ∃ σ h R', RS X.K H σ τ ∧ RH X h H ∧ ti σ h R' ∧ ∀ s h' H', HExt H H' → RH X h' H' → R' s h' → ∀ J, Good X H' l J s → R J H'
abbrev IJ (X : Cx) (l : Bool) (tg e : Expr) (ti : AI) : Prop := PI X tg e (upI X l ti)
theorem PI.imp {tg e : Expr} {t t' : TI} (h : PI X tg e t') (f : ∀ τ H R, t τ H R → t' τ H R) : PI X tg e t := ⟨fun pins s σ H R I q => h.run pins s σ H R I (f _ _ _ q)⟩
/-- a list, a tuple -/
def iSeq (te : AE) : AI := fun σ h R => te σ h fun x h1 => ∃ xs, seqOf h1 x = some xs ∧ (xs.length ≤ sizeLine → R (fun h => seqOf h x) h1)
theorem i_seq (he : EJ X e ta) : IJ X false tg e (iSeq ta) := by
  refine ⟨fun pins s τ H R I ⟨σ, h, R', hs, hh, q, k⟩ => ?_⟩
  refine thn (he.run pins s τ H (fun v H1 => ∃ x h1, HExt H H1 ∧ RD X.K H1 x v ∧ RH X h1 H1 ∧ ∃ xs, seqOf h1 x = some xs ∧ (xs.length ≤ sizeLine → R' (fun h => seqOf h x) h1)) I ⟨σ, h, _, hs, hh, q, fun d v h1 H1 e1 rd hh1 q1 => ⟨d, h1, e1, rd, hh1, q1⟩⟩) fun v s1 ⟨x, H1, I1, r1, d, h1, e1, rd, hh1, xs, ex, q1⟩ => ?_
  obtain ⟨a, ws, rfl, h2, h3⟩ := seq_at hh1 rd ex
  cases r1
  rcases h3 with ⟨rfl, h3⟩ | ⟨rfl, h3, h4⟩
  · obtain ⟨its, rv, p, hz⟩ := I1.tuple h3.sqT
    refine wpAny_pyIter_tuple (show s1.heap.IsTuple a its.toArray from p) ?_
    refine ⟨s1.heap.objs.size, [s1.heap.objs.size], _, _, H1, rfl, I1.kept (t' := s1.toks) fun b o e => Heap.get?_push_of_some _ e, turn_tuple a _, ⟨_, Heap.get?_push_size _ rfl, rfl, rfl⟩, fun b hb => ?_, k _ _ _ e1 hh1 (q1 (by rw [h2.length]; exact hz)) _ ?_⟩
    · have e : b = s1.heap.objs.size := by simpa using hb
      subst e
      exact I1.fpOk (Nat.le_refl _) (I1.hok.fresh (Nat.le_refl _))
    · intro i h H ys x2 hh2 e
      cases e
      have s3 : SqT X.K H a ws := (x2.ndT h3).sqT
      have r3 := h2.mono x2
      refine ⟨fun e => ⟨ws, s3, ?_⟩, fun d e => ?_⟩
      · rw [← r3.length]; exact List.getElem?_eq_none_iff.mp e
      · obtain ⟨v, e1, r⟩ := r3.get e
        refine ⟨⟨ws, v, s3, e1⟩, fun v' H' ⟨eH, f⟩ => ?_⟩
        subst eH
        have := (f ws s3).symm.trans e1
        cases this
        exact ⟨.refl _, hh2, r⟩
  · obtain ⟨its, rv, p, hz⟩ := I1.list (.inl (.inl h4))
    refine wpAny_pyIter_list p.isList ?_
    refine ⟨s1.heap.objs.size, [s1.heap.objs.size], _, _, H1, rfl, I1.kept (t' := s1.toks) fun b o e => Heap.get?_push_of_some _ e, turn_list a _, ⟨_, Heap.get?_push_size _ rfl, rfl, rfl⟩, fun b hb => ?_, k _ _ _ e1 hh1 (q1 (by rw [h2.length]; exact hz)) _ ?_⟩
    · have e : b = s1.heap.objs.size := by simpa using hb
      subst e
      exact I1.fpOk (Nat.le_refl _) (I1.hok.fresh (Nat.le_refl _))
    · intro i h H ys x2 hh2 e
      have e' : h a = some (.lst ys) := by
        unfold seqOf at e
        simp only at e
        split at e
        · cases e; assumption
        · cases e
      obtain ⟨zs, f1, r3⟩ := lstAt hh2 e'
      have s3 : SqL X.K H a zs := .inl (.inl f1)
      refine ⟨fun e => ⟨zs, s3, ?_⟩, fun d e => ?_⟩
      · rw [← r3.length]; exact List.getElem?_eq_none_iff.mp e
      · obtain ⟨v, e1, r⟩ := r3.get e
        refine ⟨⟨zs, v, s3, e1⟩, fun v' H' ⟨eH, f⟩ => ?_⟩
        subst eH
        have := (f zs s3).symm.trans e1
        cases this
        exact ⟨.refl _, hh2, r⟩
/-- range -/
def rgD (lo : Int) (n : Nat) : List D := (List.range n).map fun i => .int (lo + (i : Nat))
theorem rgD_length (lo : Int) (n : Nat) : (rgD lo n).length = n := by simp [rgD]
theorem rgD_get {lo : Int} {n i : Nat} : (rgD lo n)[i]? = if i < n then some (.int (lo + (i : Nat))) else none := by
  unfold rgD
  rw [List.getElem?_map]
  split
  · rename_i h; rw [List.getElem?_range h]; rfl
  · rename_i h; rw [List.getElem?_eq_none (by simpa using h)]; rfl
theorem good_range (lo : Int) (n : Nat) (H0 : Hp) : Good X H0 false (Itr lo n) (fun _ => some (rgD lo n)) := by
  intro i h H xs _ hh e
  cases e
  refine ⟨fun e => ?_, fun d e => ?_⟩
  · rw [rgD_get] at e
    show n ≤ i
    split at e
    · cases e
    · omega
  · rw [rgD_get] at e
    split at e
    · cases e
      rename_i hi
      exact ⟨hi, fun v H' ⟨e1, e2⟩ => by subst e1 e2; exact ⟨.refl _, hh, .int _⟩⟩
    · cases e
def iRg1 (t : AA) : AI := fun σ h R => t σ h fun ds h1 => match ds with
  | [.int j] => -(2 ^ 62) ≤ j ∧ j < 2 ^ 62 ∧ R (fun _ => some (rgD 0 j.toNat)) h1
  | _ => False
theorem i_range1 {t : AA} (hg : Gl X "range") (hm : X.mg "range" = none) (ha : AJ X [a] t) (hs : starEach [a] X.env = [(false, eval a X.env)] := by rfl) : IJ X false tg (.Call (.Name "range" p) [a] [] pos) (iRg1 t) :=
  PI.imp (pi_range1 hg hm ha hs) fun τ H R ⟨σ, h, R', hs, hh, q, k⟩ => ⟨σ, h, _, hs, hh, q, fun ds vs h1 H1 e1 rds hh1 q1 => by
    match ds, q1 with
    | [.int j], ⟨b1, b2, q1⟩ =>
      cases rds with
      | cons r1 r2 => cases r2; cases r1; exact ⟨j, rfl, b1, b2, k _ _ _ e1 hh1 q1 _ (good_range 0 _ _)⟩⟩
def iRg2 (t : AA) : AI := fun σ h R => t σ h fun ds h1 => match ds with
  | [.int i, .int j] => (-(2 ^ 62) ≤ i ∧ i < 2 ^ 62 ∧ -(2 ^ 62) ≤ j ∧ j < 2 ^ 62) ∧ R (fun _ => some (rgD i (j - i).toNat)) h1
  | _ => False
theorem i_range2 {t : AA} (hg : Gl X "range") (hm : X.mg "range" = none) (ha : AJ X [a, b] t) (hs : starEach [a, b] X.env = [(false, eval a X.env), (false, eval b X.env)] := by rfl) (hs2 : starEach [b] X.env = [(false, eval b X.env)] := by rfl) : IJ X false tg (.Call (.Name "range" p) [a, b] [] pos) (iRg2 t) :=
  PI.imp (pi_range2 hg hm ha hs hs2) fun τ H R ⟨σ, h, R', hs, hh, q, k⟩ => ⟨σ, h, _, hs, hh, q, fun ds vs h1 H1 e1 rds hh1 q1 => by
    match ds, q1 with
    | [.int i, .int j], ⟨b1, q1⟩ =>
      cases rds with
      | cons r1 r2 =>
        cases r2 with
        | cons r2 r3 => cases r3; cases r1; cases r2; exact ⟨i, j, rfl, b1, k _ _ _ e1 hh1 q1 _ (good_range i _ _)⟩⟩
/-- zip of two lists, of two tuples -/
def zipD (xs ys : List D) : List D := List.zipWith (fun x y => .tup [x, y]) xs ys
def zipOf (x y : D) : AItems := fun h => match seqOf h x, seqOf h y with
  | some xs, some ys => some (zipD xs ys)
  | _, _ => none
def sameKind : D → D → Bool
  | .tup _, .tup _ => true
  | .ref _, .ref _ => true
  | _, _ => false
def iZip2 (t : AA) : AI := fun σ h R => t σ h fun ds h1 => match ds with
  | [x, y] => sameKind x y = true ∧ ∃ xs ys, seqOf h1 x = some xs ∧ seqOf h1 y = some ys ∧ (xs.length ≤ sizeLine → R (zipOf x y) h1)
  | _ => False
theorem zipD_none {xs ys : List D} {i : Nat} (e : (zipD xs ys)[i]? = none) : xs.length ≤ i ∨ ys.length ≤ i := by
  have := List.getElem?_eq_none_iff.mp e
  simp only [zipD, List.length_zipWith] at this
  omega
theorem zipD_some {xs ys : List D} {i : Nat} {d : D} (e : (zipD xs ys)[i]? = some d) : ∃ x y, xs[i]? = some x ∧ ys[i]? = some y ∧ d = .tup [x, y] := by
  simp only [zipD, List.getElem?_zipWith] at e
  cases h1 : xs[i]? with
  | none => rw [h1] at e; cases e
  | some x =>
    cases h2 : ys[i]? with
    | none => rw [h1, h2] at e; cases e
    | some y =>
      rw [h1, h2] at e
      exact ⟨x, y, rfl, rfl, (Option.some.inj e).symm⟩
/-- what the heap's own invariant adds -/
def Fits (K : PySem.W.Frag) (H : Hp) (vs : List V) : Prop := ∀ (a : Addr) (ws : List V), V.ref a ∈ vs → (SqL K H a ws ∨ SqT K H a ws) → ws.length ≤ sizeLine
theorem pa_fits {t : TA} (h : PA X es t) : PA X es (fun σ H Q => t σ H fun vs H1 => Fits X.K H1 vs → Q vs H1) := ⟨fun pos pins s σ H Q I q => thn (h.run pos pins s σ H _ I q) fun us s1 ⟨vs, H1, I1, r1, q1⟩ => ⟨vs, H1, I1, r1, q1 fun a ws _ z => by
  rcases z with z | z
  · obtain ⟨_, _, _, hz⟩ := I1.list z; exact hz
  · obtain ⟨_, _, _, hz⟩ := I1.tuple z; exact hz⟩⟩
theorem i_zip {t : AA} {elts : List Expr} {kk : Nat} {tpos : Pos} (hg : Gl X "zip") (hm : X.mg "zip" = none) (ha : AJ X [a, b] t)
    (hs : starEach [a, b] X.env = (false, eval a X.env) :: starEach [b] X.env := by rfl) (hpl : (backTo pos (starEach [b] X.env)).any (·.1) = false := by rfl) :
    IJ X true (.Tuple elts kk tpos) (.Call (.Name "zip" p) [a, b] [] pos) (iZip2 t) :=
  PI.imp (RZ.pi_zipA hg hm (pa_fits ha) hs hpl) fun τ H R ⟨σ, h, R', hs, hh, q, k⟩ => ⟨σ, h, _, hs, hh, q, fun ds vs h1 H1 e1 rds hh1 q1 fits => by
    match ds, q1 with
    | [x, y], ⟨sk, xs, ys, ex, ey, q1⟩ =>
      cases rds with
      | cons r1 r2 =>
        cases r2 with
        | cons r2 r3 =>
          cases r3
          obtain ⟨a, ws, rfl, h2, h3⟩ := seq_at hh1 r1 ex
          obtain ⟨b, zs, rfl, g2, g3⟩ := seq_at hh1 r2 ey
          refine ⟨a, b, ws, zs, rfl, ?_⟩
          rcases h3 with ⟨rfl, h3⟩ | ⟨rfl, h3, h4⟩
          · rcases g3 with ⟨rfl, g3⟩ | ⟨rfl, g3, g4⟩
            · refine .inr ⟨h3.sqT, g3.sqT, k _ _ _ e1 hh1 (q1 (by rw [h2.length]; exact fits a ws (by simp) (.inr h3.sqT))) _ ?_⟩
              intro i h H us x2 hh2 e
              simp only [zipOf, seqOf, Option.some.injEq] at e
              subst e
              have s1 := (x2.ndT h3).sqT
              have s2 := (x2.ndT g3).sqT
              have l1 := h2.length
              have l2 := g2.length
              refine ⟨fun e => ⟨_, _, s1, s2, by rw [← l1, ← l2]; exact zipD_none e⟩, fun d e => ?_⟩
              obtain ⟨x, y, f1, f2, rfl⟩ := zipD_some e
              obtain ⟨v, v1, v2⟩ := (h2.mono x2).get f1
              obtain ⟨w, w1, w2⟩ := (g2.mono x2).get f2
              refine ⟨⟨_, _, v, w, s1, s2, v1, w1⟩, ?_⟩
              rintro _ _ ⟨T, v', w', rfl, hT, rfl, k1, k2⟩
              have e3 := (k1 _ s1).symm.trans v1
              have e4 := (k2 _ s2).symm.trans w1
              cases e3; cases e4
              exact ⟨.new hT, hh2.junk hT, .inr ⟨_, T, _, rfl, rfl, .inl (.inl upd_same), .cons (v2.mono (.new hT)) (.cons (w2.mono (.new hT)) .nil)⟩⟩
            · cases sk
          · rcases g3 with ⟨rfl, g3⟩ | ⟨rfl, g3, g4⟩
            · cases sk
            · refine .inl ⟨.inl (.inl h4), .inl (.inl g4), k _ _ _ e1 hh1 (q1 (by rw [h2.length]; exact fits a ws (by simp) (.inl (.inl (.inl h4))))) _ ?_⟩
              intro i h H us x2 hh2 e
              simp only [zipOf] at e
              cases ea : seqOf h (.ref a) with
              | none => rw [ea] at e; cases e
              | some xs' =>
                cases eb : seqOf h (.ref b) with
                | none => rw [ea, eb] at e; cases e
                | some ys' =>
                  rw [ea, eb] at e
                  cases e
                  have un : ∀ {a : Addr} {xs : List D}, seqOf h (.ref a) = some xs → h a = some (.lst xs) := fun {a xs} e => by
                    unfold seqOf at e
                    simp only at e
                    split at e
                    · cases e; assumption
                    · cases e
                  obtain ⟨zs', f1, r3⟩ := lstAt hh2 (un ea)
                  obtain ⟨us', f2, r4⟩ := lstAt hh2 (un eb)
                  have s1 : SqL X.K H a zs' := .inl (.inl f1)
                  have s2 : SqL X.K H b us' := .inl (.inl f2)
                  have l1 := r3.length
                  have l2 := r4.length
                  refine ⟨fun e => ⟨_, _, s1, s2, by rw [← l1, ← l2]; exact zipD_none e⟩, fun d e => ?_⟩
                  obtain ⟨x, y, f1, f2, rfl⟩ := zipD_some e
                  obtain ⟨v, v1, v2⟩ := r3.get f1
                  obtain ⟨w, w1, w2⟩ := r4.get f2
                  refine ⟨⟨_, _, v, w, s1, s2, v1, w1⟩, ?_⟩
                  rintro _ _ ⟨T, v', w', rfl, hT, rfl, k1, k2⟩
                  have e3 := (k1 _ s1).symm.trans v1
                  have e4 := (k2 _ s2).symm.trans w1
                  cases e3; cases e4
                  exact ⟨.new hT, hh2.junk hT, .inr ⟨_, T, _, rfl, rfl, .inl (.inl upd_same), .cons (v2.mono (.new hT)) (.cons (w2.mono (.new hT)) .nil)⟩⟩⟩
/-! ### for -/
def aFor (ti : AI) (g : AG) (tb : AS) : AS := fun E σ h => ti σ h fun s h1 => ∃ xs, s h1 = some xs ∧ ∃ W : Nat → ASt → AH → Prop, W 0 σ h1 ∧ ∀ i σ h, W i σ h → s h = some xs ∧ (match xs[i]? with
  | none => E.nx σ h
  | some d => g d σ h fun σ2 h2 => tb { E with nx := Fgt (W (i + 1)), ct := Fgt (W (i + 1)), bk := E.nx } σ2 h2)
theorem s_for {iter : Expr} {body : List Stmt} {ti : AI} {l : Bool} (hp : PassesOwn (model X.prog X.w) X.A X.env X.xe) (hc : X.calm = true) (hi : IJ X l tg iter ti) (hg : GJ X l tg vs g) (hb : BJ X body t)
    (hs : ∀ x, foldedSetIterable iter X.env x = pure x := by intro _; rfl) : SJ X (.For tg iter body [] pos) (aFor ti g t) := (ps_for hp hc hi hg hb hs).imp fun D τ H _ ⟨σ, h, E, hs, hh, q, k⟩ => by
  refine ⟨σ, h, _, hs, hh, q, fun s h1 H1 e1 hh1 ⟨xs, ex, W, w0, step⟩ J good => ?_⟩
  refine ⟨fun i m τ' H' => ∃ σ' h', HExt H1 H' ∧ RS X.K H' σ' τ' ∧ RH X h' H' ∧ W i σ' h' ∧ i + m = xs.length, ⟨xs.length, σ, h1, .refl H1, hs.mono e1, hh1, w0, by omega⟩, fun i m τ2 H2 ⟨σ2, h2, e2, hs2, hh2, w2, em⟩ => ?_⟩
  obtain ⟨es, st⟩ := step i σ2 h2 w2
  obtain ⟨gd1, gd2⟩ := good i h2 H2 xs e2 hh2 es
  cases q1 : xs[i]? with
  | none =>
    rw [q1] at st
    exact .inl ⟨gd1 q1, k.nx _ _ _ _ (e1.trans e2) hs2 hh2 st⟩
  | some d =>
    rw [q1] at st
    have hi := (List.getElem?_eq_some_iff.mp q1).1
    obtain ⟨go, yld⟩ := gd2 d q1
    refine .inr ⟨go, fun τ' H' => ∃ σ' h', HExt H1 H' ∧ RS X.K H' σ' τ' ∧ RH X h' H' ∧ W (i + 1) σ' h', fun τ' H' ⟨σ', h', z1, z2, z3, z4⟩ => ⟨m - 1, by omega, σ', h', z1, z2, z3, z4, by omega⟩, fun v H3 hy => ?_⟩
    obtain ⟨x3, hh3, rd⟩ := yld v H3 hy
    refine ⟨d, σ2, h2, _, rd, hs2.mono x3, hh3, st, fun σ4 h4 τ4 H4 e4 hs4 hh4 _ q4 => ?_⟩
    have again : ∀ σ' h' τ' H', HExt H4 H' → RS X.K H' σ' τ' → RH X h' H' → Fgt (W (i + 1)) σ' h' → ∃ σ' h', HExt H1 H' ∧ RS X.K H' σ' τ' ∧ RH X h' H' ∧ W (i + 1) σ' h' := by
      rintro σ' h' τ' H' e5 hs5 hh5 ⟨σ0, h0, s1, s2, w⟩
      exact ⟨σ0, h0, ((e2.trans x3).trans e4).trans e5, hs5.weak s1, RHp.weak hh5 s2, w⟩
    have ee := ((e1.trans e2).trans x3).trans e4
    exact ⟨σ4, h4, _, hs4, hh4, q4, ⟨fun σ' h' τ' H' e5 => again σ' h' τ' H' e5, (k.ext ee).rt, ContS.ext k.nx ee, fun σ' h' τ' H' e5 => again σ' h' τ' H' e5⟩⟩
end
end AX

set_option Elab.async false
set_option linter.all false
set_option maxRecDepth 100000
set_option maxHeartbeats 4000000
namespace AX
open PySem PySem.Spec PyProof.Rows L2
/-! ### enumerate(tuple) -/
theorem meets_enumerate_new1 {v : Value} {o : Obj} {H : Heap → Prop} (B : Begins v o H) :
    Meets (Builtin.«enumerate.__new__» ⟨[.type "enumerate", v], []⟩) (fun _ R s => H s.heap ∧
      R (.ok (.ret (.ref (s.heap.push o).objs.size))) { s with heap := (s.heap.push o).push { cls := .type "enumerate", data := .fields #[.none, .bool false, .ref s.heap.objs.size, rawInt 0, .none, .none] } }) :=
  .of_wp fun prog w A R s h => by
    obtain ⟨hp, g, d, tk, os⟩ := s; obtain ⟨h1, h⟩ := h
    have hsub := sub_enumerate
    have q1 : ∀ {A' : Around} {E : Value → Shared → Prop} {Q : Value → Shared → Prop}, Q (.ref hp.objs.size) ⟨hp.push o, g, d, tk, os⟩ → wpAny (model prog w) A' (pyIter v) Q E ⟨hp, g, d, tk, os⟩ :=
      fun q => B.iter prog w _ _ ⟨hp, g, d, tk, os⟩ _ h1 q
    wp_walk using q1
    refine wpAny_stack_any fun st => wpAny_pure ?_
    split
    · rename_i c _ _ _ _ _
      cases (c == Value.type "enumerate")
      · wp_walk using q1
        exact ⟨_, rfl, h⟩
      · wp_walk using q1
        exact ⟨_, rfl, h⟩
    · wp_walk using q1
      exact ⟨_, rfl, h⟩
theorem enum_begins1 {prog : Program} {w : World} {A : Around} {E : Value → Shared → Prop} {s : Shared} {v : Value} {o : Obj} {H : Heap → Prop} {Q : Value → Shared → Prop} (B : Begins v o H) (h1 : H s.heap)
    (h : ∀ h', IsEnum h' (s.heap.objs.size + 1) s.heap.objs.size 0 .none → h'.get? s.heap.objs.size = some o → h'.objs.size = s.heap.objs.size + 2 →
      (∀ b o, s.heap.get? b = some o → h'.get? b = some o) → Q (.ref (s.heap.objs.size + 1)) { s with heap := h' }) :
    wpAny (model prog w) A (call (.type "enumerate") [v]) Q E s := by
  refine callType_new F.called_enumerate (by decide) (F.typeCall_enumerate_1 _) (F.newCall_enumerate_1 _) (fun obj => F.args_object_init_2 obj _) F.entry_enumerate_new
    (meets_enumerate_new1 B) ⟨h1, ?_⟩
  have hz : (s.heap.push o).objs.size = s.heap.objs.size + 1 := Heap.size_push ..
  show _ ∧ _
  rw [hz]
  have he : IsEnum ((s.heap.push o).push { cls := .type "enumerate", data := .fields #[.none, .bool false, .ref s.heap.objs.size, rawInt 0, .none, .none] }) (s.heap.objs.size + 1) s.heap.objs.size 0 .none := by
    have := Heap.get?_push_size (s.heap.push o) (o := { cls := .type "enumerate", data := .fields #[.none, .bool false, .ref s.heap.objs.size, rawInt 0, .none, .none] }) rfl
    rw [hz] at this; exact this
  refine ⟨⟨_, he, rfl⟩, h _ he (Heap.get?_push_of_some _ (Heap.get?_push_size _ B.free)) (by rw [Heap.size_push, hz]) fun b o x => Heap.get?_push_of_some _ (Heap.get?_push_of_some _ x)⟩
/-- the tuple at a, each item in a new pair -/
def IteT (K : PySem.W.Frag) (a : Addr) : It :=
  ⟨fun i H => ∃ (xs : List V) (x : V), SqT K H a xs ∧ xs[i]? = some x, fun i H v H' => ∃ T x, v = .ref T ∧ H T = none ∧ H' = upd H T (.tup [.int (i : Nat), x]) ∧ ∀ xs, SqT K H a xs → xs[i]? = some x, fun i H => ∃ xs : List V, SqT K H a xs ∧ xs.length ≤ i⟩
theorem turn_enumT {P : Program} {w : World} {K : PySem.W.Frag} {elts : List Expr} {kk : Nat} {tpos : Pos} (a e it : Addr) :
    Turn P w K (.Tuple elts kk tpos) (IteT K a) [e, it] e (fun i h => (∃ old, IsEnum h e it ((i : Nat) : Int) old) ∧ h.IsTupleIter it a i ∧ e ≠ it ∧ a ≠ it ∧ a ≠ e) where
  mem := by simp
  obj := fun i h st b hb => by
    obtain ⟨⟨old, he⟩, ⟨o, ho, hc, hd⟩, _⟩ := st
    have e' : b = e ∨ b = it := by simpa using hb
    rcases e' with z | z
    · rw [z]; exact ⟨_, he, fun v q => nomatch q⟩
    · rw [z]; exact ⟨o, ho, fun v q => by rw [hd] at q; cases q⟩
  keep := fun i h h' st k => let ⟨⟨old, he⟩, hi, hne⟩ := st; ⟨⟨old, k e (by simp) _ he⟩, hi.at fun o q => k it (by simp) o q, hne⟩
  item := by
    intro X hP hw hK hc i pins s σ H E I hf st hg
    subst hP hw hK
    obtain ⟨⟨old, he⟩, hit, hne, hai, hae⟩ := st
    obtain ⟨xs, x, hq, hx⟩ := hg
    obtain ⟨its, rv, p, hz⟩ := I.tuple hq
    obtain ⟨u, hu, ru⟩ := rv.get hx
    have hel : e < s.heap.objs.size := Heap.lt_size he
    have hil : it < s.heap.objs.size := by obtain ⟨_, q, _⟩ := hit; exact Heap.lt_size q
    have D := Draws.tuple (prog := X.prog) (w := X.w) (A := X.A.in1) (I.ok.hd hc) it a hai its.toArray
    have hi : i < its.toArray.size := by simpa using (List.getElem?_eq_some_iff.mp hu).1
    refine wpAny_pyNext_enum_itemD D he ⟨hit, (show s.heap.IsTuple a its.toArray from p)⟩ hi hne (by simp [hne, Ne.symm hae]) fun x2 h' tk hP ho hst hT hsz hk => ?_
    have hx2 : x2 = u := by
      have : its.toArray[i]? = some u := by simpa using hu
      rw [this] at hP; exact (Option.some.inj hP).symm
    subst hx2
    refine ⟨_, rfl, wpAny_letOwnedTupleGo_enum (s := { s with heap := h', toks := tk + 1 }) ho fun h'' he' sb => ?_⟩
    have hT2 : h''.get? s.heap.objs.size = some { cls := .type "tuple", data := .seq #[.int i tk, x2] } := (sb.2 _ (Nat.ne_of_gt hel)).trans hT
    have new : ObjOk X.prog X.w (upd H s.heap.objs.size (.tup [.int (i : Nat), x])) h'' s.heap.objs.size (.tup [.int (i : Nat), x]) :=
      ⟨by show 2 ≤ sizeLine; decide, [.int i tk, x2], .cons ⟨_, rfl⟩ (.cons ru .nil), ⟨_, hT2, rfl, _, rfl⟩⟩
    have I1 : Inv X pins σ (upd H s.heap.objs.size (.tup [.int (i : Nat), x])) { s with heap := h'', toks := tk + 1 } :=
      I.turnedNew (ch := [e, it]) (fun b ob hb q => (sb.2 b (fun z => hb (by simp [z]))).trans (hk b ob (fun z => hb (by simp [z])) (fun z => hb (by simp [z])) q)) hf (Nat.le_refl _) new
    refine ⟨.ref s.heap.objs.size, _, I1, rfl, ⟨_, x, rfl, I.hok.fresh (Nat.le_refl _), rfl, fun ys hy => by rw [I.tuple_inj hy hq]; exact hx⟩, ⟨⟨x2, ?_⟩, hst.1.at fun o q => (sb.2 it (Ne.symm hne)).trans q, hne, hai, hae⟩, fun b hb => ?_⟩
    · have e1 : ((i + 1 : Nat) : Int) = (i : Int) + 1 := by omega
      rw [e1]; exact he'
    · have hb' : b < s.heap.objs.size := by
        have e' : b = e ∨ b = it := by simpa using hb
        rcases e' with z | z
        · rw [z]; exact hel
        · rw [z]; exact hil
      rw [upd_ne (Nat.ne_of_lt hb')]
      exact (hf b hb).1
  done := by
    intro X hP hw hK hc i pins s σ H E I hf st hg
    subst hP hw hK
    obtain ⟨⟨old, he⟩, hit, hne, hai, hae⟩ := st
    obtain ⟨xs, hq, hx⟩ := hg
    obtain ⟨its, rv, p, hz⟩ := I.tuple hq
    obtain ⟨f0, f1, f2, f3, f4, f5⟩ := hf it (by simp)
    have hl := rv.length
    unfold pyNext
    have hT : s.TypeIs (.ref e) "enumerate" := ⟨_, he, rfl⟩
    refine wpAny_bind (wpAny_attempt (wpAny_callSpecial?_slot (name := Str.ofString "__next__") hT F.slot_enumerate_next
      (wpAny_call_entry F.slot_enumerate_next hT F.entry_enumerate_next ?_ (F.args_enumerate_next_1 _))))
    show wpAny _ _ (field (.ref e) 2 >>= _) _ _ _
    refine wpAny_bind (wpAny_field he rfl (x := .ref it) rfl ?_)
    refine wpAny_bind (wpAny_nextOf_tuple_end (I.ok.hd hc) hit (show s.heap.IsTuple a its.toArray from p) (by simp; omega) fun h' x he' hx' => ?_)
    obtain ⟨o, ho, hc⟩ := hx'
    refine wpAny_bind (wpAny_isInstance (T := "StopIteration") (b := true) ⟨o, ho, hc⟩ isSubtype_stop ?_)
    exact wpAny_pure ⟨rfl, I.turned (t' := s.toks) (fun b o hb q => he' b o hb q) f0 f1 f3 f4 f5⟩
  self := fun A i s Q E st h => let ⟨⟨_, he⟩, _⟩ := st; wpAny_pyIter_enum he h
section
variable {X : Cx} {e : Expr} {ta : AE} {pos p : Pos}
def enD (xs : List D) : List D := xs.mapIdx fun i d => .tup [.int (i : Nat), d]
theorem enD_get {xs : List D} {i : Nat} : (enD xs)[i]? = (xs[i]?).map fun d => .tup [.int (i : Nat), d] := by simp [enD]
theorem enD_length {xs : List D} : (enD xs).length = xs.length := by simp [enD]
def iEn (te : AE) : AI := fun σ h R => te σ h fun x h1 => ∃ xs, seqOf h1 x = some xs ∧ (xs.length ≤ sizeLine → R (fun h => (seqOf h x).map enD) h1)
theorem i_enum {elts : List Expr} {kk : Nat} {tpos : Pos} (hg : Gl X "enumerate") (hm : X.mg "enumerate" = none) (he : EJ X e ta) (hs : starEach [e] X.env = (false, eval e X.env) :: starEach [] X.env := by rfl) :
    IJ X true (.Tuple elts kk tpos) (.Call (.Name "enumerate" p) [e] [] pos) (iEn ta) := by
  refine ⟨fun pins s τ H R I ⟨σ, h, R', hsl, hh, q, k⟩ => ?_⟩
  refine Call_ (ld_blt I hg hm boot_enumerate (PyProof.Rows.callWith_type1 (one_arg (ta := upE X ta) he I (R := fun v H1 => ∃ x h1, HExt H H1 ∧ RD X.K H1 x v ∧ RH X h1 H1 ∧ ∃ xs, seqOf h1 x = some xs ∧ (xs.length ≤ sizeLine → R' (fun h => (seqOf h x).map enD) h1)) ⟨σ, h, _, hsl, hh, q, fun d v h1 H1 e1 rd hh1 q1 => ⟨d, h1, e1, rd, hh1, q1⟩⟩ (fun v s1 x H1 I1 r1 ⟨d, h1, e1, rd, hh1, xs, ex, q1⟩ => ?_) hs) hs))
  obtain ⟨a, ws, rfl, h2, h3⟩ := seq_at hh1 rd ex
  cases r1
  rcases h3 with ⟨rfl, h3⟩ | ⟨rfl, h3, h4⟩
  · obtain ⟨its, rv, p, hz⟩ := I1.tuple h3.sqT
    refine enum_begins1 (begins_tuple a its.toArray) p fun h' he' hit hsz hk => wpAny_pyIter_enum he' ?_
    have I2 : Inv X pins τ H1 { s1 with heap := h' } := I1.kept (t' := s1.toks) hk
    have la : a < s1.heap.objs.size := p.lt
    refine ⟨s1.heap.objs.size + 1, [s1.heap.objs.size + 1, s1.heap.objs.size], _, _, H1, rfl, I2, turn_enumT a (s1.heap.objs.size + 1) s1.heap.objs.size, ⟨⟨.none, he'⟩, ⟨_, hit, rfl, rfl⟩, Nat.succ_ne_self _, Nat.ne_of_lt la, Nat.ne_of_lt (Nat.lt_succ_of_lt la)⟩, fun b hb => ?_, k _ _ _ e1 hh1 (q1 (by rw [h2.length]; exact hz)) _ ?_⟩
    · have e' : b = s1.heap.objs.size + 1 ∨ b = s1.heap.objs.size := by simpa using hb
      have hle : s1.heap.objs.size ≤ b := by
        rcases e' with z | z
        · rw [z]; exact Nat.le_add_right _ _
        · rw [z]; exact Nat.le_refl _
      exact I1.fpOk hle (I1.hok.fresh hle)
    · intro i h H us x2 hh2 e
      simp only [seqOf, Option.map_some, Option.some.injEq] at e
      subst e
      have s3 : SqT X.K H a ws := (x2.ndT h3).sqT
      have r3 := h2.mono x2
      refine ⟨fun e => ⟨ws, s3, ?_⟩, fun d e => ?_⟩
      · rw [← r3.length, ← enD_length]; exact List.getElem?_eq_none_iff.mp e
      · rw [enD_get] at e
        obtain ⟨d0, e0, rfl⟩ := Option.map_eq_some_iff.mp e
        obtain ⟨v, e1, r⟩ := r3.get e0
        refine ⟨⟨ws, v, s3, e1⟩, ?_⟩
        rintro _ _ ⟨T, v', rfl, hT, rfl, f⟩
        have := (f ws s3).symm.trans e1
        cases this
        exact ⟨.new hT, hh2.junk hT, .inr ⟨_, T, _, rfl, rfl, .inl (.inl upd_same), .cons (.int _) (.cons (r.mono (.new hT)) .nil)⟩⟩
  · obtain ⟨its, rv, p, hz⟩ := I1.list (.inl (.inl h4))
    refine call_enumerate_list p.isList fun h' he' hit hsz hk => wpAny_pyIter_enum he' ?_
    have I2 : Inv X pins τ H1 { s1 with heap := h' } := I1.kept (t' := s1.toks) hk
    refine ⟨s1.heap.objs.size + 1, [s1.heap.objs.size + 1, s1.heap.objs.size], _, _, H1, rfl, I2, turn_enum a (s1.heap.objs.size + 1) s1.heap.objs.size, ⟨⟨.none, he'⟩, hit, Nat.succ_ne_self _⟩, fun b hb => ?_, k _ _ _ e1 hh1 (q1 (by rw [h2.length]; exact hz)) _ ?_⟩
    · have e' : b = s1.heap.objs.size + 1 ∨ b = s1.heap.objs.size := by simpa using hb
      have hle : s1.heap.objs.size ≤ b := by
        rcases e' with z | z
        · rw [z]; exact Nat.le_add_right _ _
        · rw [z]; exact Nat.le_refl _
      exact I1.fpOk hle (I1.hok.fresh hle)
    · intro i h H us x2 hh2 e
      simp only at e
      cases ea : seqOf h (.ref a) with
      | none => rw [ea] at e; cases e
      | some ys =>
        rw [ea] at e
        cases e
        have e' : h a = some (.lst ys) := by
          unfold seqOf at ea
          simp only at ea
          split at ea
          · cases ea; assumption
          · cases ea
        obtain ⟨zs, f1, r3⟩ := lstAt hh2 e'
        have s3 : SqL X.K H a zs := .inl (.inl f1)
        refine ⟨fun e => ⟨zs, s3, ?_⟩, fun d e => ?_⟩
        · rw [← r3.length, ← enD_length]; exact List.getElem?_eq_none_iff.mp e
        · rw [enD_get] at e
          obtain ⟨d0, e0, rfl⟩ := Option.map_eq_some_iff.mp e
          obtain ⟨v, e1, r⟩ := r3.get e0
          refine ⟨⟨zs, v, s3, e1⟩, ?_⟩
          rintro _ _ ⟨T, v', rfl, hT, rfl, f⟩
          have := (f zs s3).symm.trans e1
          cases this
          exact ⟨.new hT, hh2.junk hT, .inr ⟨_, T, _, rfl, rfl, .inl (.inl upd_same), .cons (.int _) (.cons (r.mono (.new hT)) .nil)⟩⟩
end
end AX

set_option Elab.async false
set_option linter.all false
set_option maxRecDepth 100000
set_option maxHeartbeats 4000000
namespace AX
open PySem PySem.Spec PyProof.Rows L2
/-! ### comprehensions -/
def awipe (σ : ASt) : List Nat → ASt
  | [] => σ
  | v :: vs => (awipe σ vs).set v none
theorem RS.wipe {K : PySem.W.Frag} {H : Hp} {σ : ASt} {τ : L2.St} (r : RS K H σ τ) : ∀ vs : List Nat, RS K H (awipe σ vs) (L2.wipe τ vs)
  | [] => r
  | v :: vs => (RS.wipe r vs).none v
theorem wipe_get (τ : L2.St) (j : Nat) : ∀ vs : List Nat, (L2.wipe τ vs)[j]? = if j ∈ vs then (if j < τ.length then some none else none) else τ[j]?
  | [] => by simp [L2.wipe]
  | v :: vs => by
    rw [L2.wipe]
    by_cases h : v = j
    · subst h
      rw [if_pos (by simp)]
      by_cases hv : v < τ.length
      · rw [if_pos hv, List.getElem?_set_self (by rw [L2.wipe_length]; exact hv)]
      · rw [if_neg hv]
        exact List.getElem?_eq_none (by rw [List.length_set, L2.wipe_length]; omega)
    · rw [List.getElem?_set_ne h, wipe_get τ j vs]
      have : j ∈ v :: vs ↔ j ∈ vs := by
        simp only [List.mem_cons]
        exact ⟨fun z => z.resolve_left (Ne.symm h), .inr⟩
      simp only [this]
theorem wipe_fr {vs us : List Nat} {a b : L2.St} (f : Fr us (L2.wipe a vs) b) (h : ∀ i ∈ us, i ∈ vs) : L2.wipe b vs = L2.wipe a vs := by
  apply List.ext_getElem?
  intro j
  have hl : b.length = a.length := f.1.trans (L2.wipe_length a vs)
  rw [wipe_get, wipe_get, hl]
  by_cases hj : j ∈ vs
  · rw [if_pos hj, if_pos hj]
  · rw [if_neg hj, if_neg hj]
    have := f.2 j fun z => hj (h j z)
    rw [this, wipe_get, if_neg hj]
section
variable {X : Cx} {elt tg iter kx vx : Expr} {ifs : List Expr} {scope : Scope} {own : List (Str × Nat)} {ti : AI} {g : AG} {tt : AT} {te tk tv : AE} {us : List Nat} {l : Bool} {pos : Pos}
abbrev TsJ (X : Cx) (ifs : List Expr) (t : AT) : Prop := PTs X ifs (upT X t)
def aYes : AT := fun _ h R => R true h
theorem ts_nil : TsJ X [] aYes := ⟨fun pins s σ H Q I ⟨σ', h, R, hs, hh, q, c⟩ => pts_nil.run pins s σ H Q I (c true h H (.refl H) hh q)⟩
theorem ts_one {c : Expr} {t : AT} (h : TJ X c t) : TsJ X [c] t := pts_one h
/-- one turn -/
def lcBody (g : AG) (tt : AT) (te : AE) (σ : ASt) (d : D) (h : AH) (K : Option D → AH → Prop) : Prop := g d σ h fun σ2 h2 => tt σ2 h2 fun b h3 => if b = true then te σ2 h3 fun y h4 => K (some y) h4 else K none h3
def aLc (ti : AI) (g : AG) (tt : AT) (te : AE) (vs : List Nat) : AE := fun σ h R => ti σ h fun s h1 => ∃ xs, s h1 = some xs ∧ ∀ p, h1 p = none → ∃ W : Nat → AH → Prop, W 0 (aup h1 p (.lst [])) ∧ ∀ i h, W i h → s h = some xs ∧ (match xs[i]? with
  | none => R (.ref p) h
  | some d => lcBody g tt te (awipe σ vs) d h fun o h4 => match o with
    | some y => ∃ acc h5, h4 p = some (.lst acc) ∧ acc.length < sizeLine ∧ Sub h5 (aup h4 p (.lst (acc ++ [y]))) ∧ W (i + 1) h5
    | none => ∃ h5, Sub h5 h4 ∧ W (i + 1) h5)
theorem up_lc (hus : ∀ i ∈ us, i ∈ own.map (·.2)) {τ : L2.St} {H : Hp} {Q : VK} (q : upE X (aLc ti g tt te (own.map (·.2))) τ H Q) : tLc (upI X l ti) (upG X l us g) (upT X tt) (upE X te) (own.map (·.2)) τ H Q := by
  obtain ⟨σ, h, R, hs, hh, q, c⟩ := q
  refine ⟨σ, h, _, hs, hh, q, fun s h1 H1 e1 hh1 ⟨xs, ex, q1⟩ J good p hp => ?_⟩
  obtain ⟨W, w0, step⟩ := q1 p (RHp.free hh1 hp)
  have x1 : HExt H1 (upd H1 p (.lst [])) := .new hp
  refine ⟨fun i m H' => ∃ h', HExt (upd H1 p (.lst [])) H' ∧ RH X h' H' ∧ W i h' ∧ i + m = xs.length, ⟨xs.length, _, .refl _, RHp.new hh1 (o' := .lst []) hp ⟨_, upd_same, .nil⟩, w0, by omega⟩, fun i m H2 ⟨h2, e2, hh2, w2, em⟩ => ?_⟩
  obtain ⟨es, st⟩ := step i h2 w2
  obtain ⟨gd1, gd2⟩ := good i h2 H2 xs (x1.trans e2) hh2 es
  cases q2 : xs[i]? with
  | none =>
    rw [q2] at st
    exact .inl ⟨gd1 q2, c _ _ _ _ ((e1.trans x1).trans e2) (.ref p) hh2 st⟩
  | some d =>
    rw [q2] at st
    have st : lcBody g tt te (awipe σ (own.map (·.2))) d h2 fun o h4 => match o with
      | some y => ∃ acc h5, h4 p = some (.lst acc) ∧ acc.length < sizeLine ∧ Sub h5 (aup h4 p (.lst (acc ++ [y]))) ∧ W (i + 1) h5
      | none => ∃ h5, Sub h5 h4 ∧ W (i + 1) h5 := st
    unfold lcBody at st
    have hi := (List.getElem?_eq_some_iff.mp q2).1
    obtain ⟨go, yld⟩ := gd2 d q2
    refine .inr ⟨go, fun H' => ∃ h', HExt (upd H1 p (.lst [])) H' ∧ RH X h' H' ∧ W (i + 1) h', fun H' ⟨h', z1, z2, z3⟩ => ⟨m - 1, by omega, h', z1, z2, z3, by omega⟩, fun v H3 hy => ?_⟩
    obtain ⟨x3, hh3, rd⟩ := yld v H3 hy
    have hs3 : RS X.K H3 σ τ := hs.mono (((e1.trans x1).trans e2).trans x3)
    refine ⟨d, awipe σ (own.map (·.2)), h2, _, rd, RS.wipe hs3 _, hh3, st, fun σ4 h4 τ4 H4 e4 hs4 hh4 fr q4 => ⟨wipe_fr fr hus, ?_⟩⟩
    refine ⟨σ4, h4, _, hs4, hh4, q4, fun b h5 H5 e5 hh5 q5 => ?_⟩
    cases b with
    | true =>
      rw [if_pos rfl] at q5
      refine iteT ⟨σ4, h5, _, hs4.mono e5, hh5, q5, fun y vy h6 H6 e6 ry hh6 ⟨acc, h7, a1, a2, a3, a4⟩ => ?_⟩
      obtain ⟨ws, f1, r1⟩ := lstAt hh6 a1
      obtain ⟨z1, z2⟩ := RH.putL (xs := acc) hh6 f1 (r1.append (RDs.one ry))
      exact ⟨ws, f1, by rw [← r1.length]; exact a2, h7, ((((e2.trans x3).trans e4).trans e5).trans e6).trans z1, RHp.weak z2 a3, a4⟩
    | false =>
      rw [if_neg Bool.false_ne_true] at q5
      obtain ⟨h6, a3, a4⟩ := q5
      exact iteF ⟨h6, ((e2.trans x3).trans e4).trans e5, RHp.weak hh5 a3, a4⟩
theorem e_lc (hc : X.calm = true) (hN : X.N.Nodup) (hi : IJ X l tg iter ti) (ok : BlkOk X.N X.env.scope scope own)
    (hg : ∀ (s : Shared) (H : Hp) (C : Addr) (cl : List (Str × Addr)) (fp : List Addr), GJ (X.blk s H scope (compEnvC scope cl C X.env) fp) l tg us g) (ht : ∀ (s : Shared) (H : Hp) (C : Addr) (cl : List (Str × Addr)) (fp : List Addr), TsJ (X.blk s H scope (compEnvC scope cl C X.env) fp) ifs tt)
    (he : ∀ (s : Shared) (H : Hp) (C : Addr) (cl : List (Str × Addr)) (fp : List Addr), EJ (X.blk s H scope (compEnvC scope cl C X.env) fp) elt te) (hus : ∀ i ∈ us, i ∈ own.map (·.2) := by decide) (hs : ∀ x, foldedSetIterable iter X.env x = pure x := by intro _; rfl) :
    EJ X (.ListComp elt [⟨tg, iter, ifs, 0⟩] scope pos) (aLc ti g tt te (own.map (·.2))) :=
  (pe_lc hc hN hi ok hg ht he hs).imp fun _ _ _ _ q => up_lc hus q
/-- name = [..] on one line, the name a local -/
theorem s_setLc {i : Nat} {y : Str} {py spos : Pos} (hc : X.calm = true) (hN : X.N.Nodup) (hy : X.N[i]? = some y) (hyl : X.env.scope.names.lookup y = some .local)
    (hsw : swapsWith (.ListComp elt [⟨tg, iter, ifs, 0⟩] scope pos) (some (.Name y py)) spos.line X.env = pure true)
    (hi : IJ X l tg iter ti) (ok : BlkOk X.N X.env.scope scope own)
    (hg : ∀ (s : Shared) (H : Hp) (C : Addr) (cl : List (Str × Addr)) (fp : List Addr), GJ (X.blk s H scope (compEnvC scope cl C X.env) fp) l tg us g) (ht : ∀ (s : Shared) (H : Hp) (C : Addr) (cl : List (Str × Addr)) (fp : List Addr), TsJ (X.blk s H scope (compEnvC scope cl C X.env) fp) ifs tt)
    (he : ∀ (s : Shared) (H : Hp) (C : Addr) (cl : List (Str × Addr)) (fp : List Addr), EJ (X.blk s H scope (compEnvC scope cl C X.env) fp) elt te) (hus : ∀ i ∈ us, i ∈ own.map (·.2) := by decide) (hs : ∀ x, foldedSetIterable iter X.env x = pure x := by intro _; rfl) :
    SJ X (.Assign [.Name y py] (.ListComp elt [⟨tg, iter, ifs, 0⟩] scope pos) spos) (aSet i (aLc ti g tt te (own.map (·.2)))) := by
  refine (ps_setLc (te := upE X te) (tt := upT X tt) (g := upG X l us g) hc hN hy hyl hsw hi ok hg ht he hs).imp fun D τ H _ q => ?_
  obtain ⟨σ, h, E, hs, hh, q, k⟩ := q
  exact up_lc hus (Q := fun v H1 => gName i v τ H1 D.nx) ⟨σ, h, _, hs, hh, q, fun d v h1 H1 e1 rd hh1 q1 => k.nx _ h1 _ H1 e1 ((hs.mono e1).set i rd) hh1 q1⟩
/-- the usual case: each turn leaves the heap as it is, or new things on it -/
theorem aLc_pure {σ : ASt} {h : AH} {R : DK} {vs : List Nat} {s : AItems} {h1 : AH} {xs : List D} (f : D → Option D) (hq : ∀ R' : AItems → AH → Prop, (xs.length ≤ sizeLine → R' s h1) → ti σ h R') (hst : ∀ h', Sub h1 h' → s h' = some xs)
    (step : ∀ d ∈ xs, ∀ h', Sub h1 h' → ∀ K : Option D → AH → Prop, (∀ h'', Sub h' h'' → K (f d) h'') → lcBody g tt te (awipe σ vs) d h' K)
    (q : ∀ p, h1 p = none → R (.ref p) (aup h1 p (.lst (xs.filterMap f)))) : aLc ti g tt te vs σ h R := by
  refine hq _ fun hz => ⟨xs, hst h1 (.refl h1), fun p hp => ⟨fun i h' => h' = aup h1 p (.lst ((xs.take i).filterMap f)), by simp, fun i h' e => ?_⟩⟩
  subst e
  have s1 : Sub h1 (aup h1 p (.lst ((xs.take i).filterMap f))) := .new hp
  refine ⟨hst _ s1, ?_⟩
  cases q2 : xs[i]? with
  | none =>
    have : xs.take i = xs := List.take_of_length_le (List.getElem?_eq_none_iff.mp q2)
    rw [this]
    exact q p hp
  | some d =>
    have hi := (List.getElem?_eq_some_iff.mp q2).1
    have ht : xs.take (i + 1) = xs.take i ++ [d] := by rw [List.take_add_one, q2]; rfl
    refine step d (List.mem_of_getElem? q2) _ s1 _ fun h'' s2 => ?_
    have ep : h'' p = some (.lst ((xs.take i).filterMap f)) := s2 p _ aup_same
    cases e : f d with
    | none =>
      refine ⟨_, s2, ?_⟩
      show _ = aup h1 p (.lst ((xs.take (i + 1)).filterMap f))
      rw [ht, List.filterMap_append]
      simp [e]
    | some y =>
      refine ⟨_, aup h1 p (.lst ((xs.take (i + 1)).filterMap f)), ep, ?_, ?_, rfl⟩
      · have := List.length_filterMap_le f (xs.take i)
        have := List.length_take_le i xs
        omega
      · intro a o ha
        by_cases hap : a = p
        · subst hap
          rw [aup_same] at ha; cases ha
          rw [aup_same, ht, List.filterMap_append]
          simp [e]
        · rw [aup_ne hap] at ha ⊢
          exact s2 a o (s1 a o ha)
end
end AX

set_option Elab.async false
set_option linter.all false
set_option maxRecDepth 100000
set_option maxHeartbeats 4000000
namespace AX
open PySem PySem.Spec PyProof.Rows L2
/-! ### what a def promises -/
abbrev AXK := Addr → List (Str × D) → AH → Prop
abbrev ASp := List D → AH → DK → AXK → Prop
/-- nothing is raised -/
def AX0 : AXK := fun _ _ _ => False
/-- an exception's own attributes -/
def XF (K : PySem.W.Frag) (H : Hp) (h : AH) (d : Option Addr) : List (Str × D) → Prop
  | [] => True
  | fs => ∃ dd gs, d = some dd ∧ h dd = none ∧ H dd = some (.xd gs) ∧ gs.map (·.1) = fs.map (·.1) ∧ RDs K H (fs.map (·.2)) (gs.map (·.2))
section
variable (P : Program) (w : World) (K : PySem.W.Frag)
def upXK (H0 : Hp) (E : AXK) : XK := fun cls d H' => ∃ C fs h', cls = .ref C ∧ XF K H' h' d fs ∧ HExt H0 H' ∧ RHp P w K h' H' ∧ E C fs h'
structure SpOk (H : Hp) (R : DK) (Q : VK) (E : AXK) (W : XK) : Prop where
  rt : ∀ d v h' H', HExt H H' → RD K H' d v → RHp P w K h' H' → R d h' → Q v H'
  ex : ∀ cls d H', upXK P w K H E cls d H' → W cls d H'
def upSp (sp : ASp) : Sp := fun vs H Q W => ∃ ds h R E, RDs K H ds vs ∧ RHp P w K h H ∧ sp ds h R E ∧ SpOk P w K H R Q E W
end
def fgR (R : DK) : DK := fun d h' => ∃ h0, Sub h0 h' ∧ R d h0
def astart (N : List Str) (ds : List D) : ASt := ds.map some ++ List.replicate (N.length - ds.length) none
/-- a def's promise, where no repr is under way -/
structure FnG (gd : Prop) (P : Program) (w : World) (K : PySem.W.Frag) (mg : Str → Option Value) (base : Heap) (k : Nat) (f : Addr) (fd : FuncData) (ps : List Str) (sp : Sp) : Prop where
  len : ∀ vs H Q E, sp vs H Q E → vs.length = ps.length
  run : ∀ (A : Around) (outer : List Env) (s : Shared) (H : Hp) (args : Args) (us : List Value) (vs : List V) (Q : VK) (E : XK), Room k A → (gd → A.guards = some []) → Env0 P w K mg base A outer s H → BindsTo s fd args (ps.zip us) → Vals vs us → sp vs H Q E →
    codeAny (model P w) A (.call (.ref f) args) (CR (L2.CX P w) outer P w H s Q E) s
theorem FnG.mono {P : Program} {w : World} {K : PySem.W.Frag} {mg : Str → Option Value} {base : Heap} {j k : Nat} {f : Addr} {fd : FuncData} {ps : List Str} {sp : Sp} (F : FnG gd P w K mg base j f fd ps sp) (h : j ≤ k) :
    FnG gd P w K mg base k f fd ps sp := ⟨F.len, fun A outer s H args us vs Q E hr => F.run A outer s H args us vs Q E (hr.mono h)⟩
/-- THE RULE for a def, over the concrete layer -/
theorem fn_G {P : Program} {w : World} {K : PySem.W.Frag} {mg : Str → Option Value} {base : Heap} {x qual : Str} {params : Arguments} {body : List Stmt} {scope : Scope} {dvs : List V} {kws : List (Str × V)} {f : Addr} {fd : FuncData} {N ps : List Str} {k : Nat} {sp : Sp}
    (F : FunD K x qual params body scope dvs kws f fd) (S : FnScope N ps scope) (len : ∀ vs H Q E, sp vs H Q E → vs.length = ps.length)
    (hbody : ∀ (cdv : Value) (A : Around) (outer : List Env) (s : Shared) (H : Hp) (vs : List V) (Q : VK) (E : XK), fd.code = cdv → Room k (A.deeper (envOfC qual scope s.heap.objs.size f cdv)) → (gd → (A.deeper (envOfC qual scope s.heap.objs.size f cdv)).guards = some []) → sp vs H Q E →
      ∃ t, PSs (cxOf (L2.CX P w) P w K mg base N qual scope f cdv A outer s H E) body t ∧ t { nx := fun _ H' => Q .non H', rt := Q } (L2.start N vs) H) :
    FnG gd P w K mg base (k + 1) f fd ps sp := by
  obtain ⟨oc, od, dV, kV, doc, pm, an, cdv, ct, osl, rfl, lk, hcd, _, _⟩ := F.ex
  refine ⟨len, fun A outer s H args us vs Q E hr hg e0 hb r hsp => ?_⟩
  have hl := len _ _ _ _ hsp
  have KX : K.In s.heap := e0.mod.kin.keeps fun b o e => (e0.bs b o e).1
  have lim : s.heap.NoLimit := e0.mod.nolimit.keeps fun b o e => (e0.bs b o e).1
  have hkind : ∀ y ∈ ps.zip us, scope.names.lookup y.1 = some .local ∨ (scope.names.lookup y.1 = some .cell ∧ ((cellsFrom (s.heap.objs.size + 1) scope.names []).lookup y.1).isSome = true) := fun ⟨n, v⟩ hy => by
    rcases S.par n (List.of_mem_zip hy).1 with q | q
    · exact .inl q
    · exact .inr ⟨q, PySem.W.cellsFrom_some _ _ _ (.inl q)⟩
  refine codeAny_call_function hr.depth (KX _ _ lk) rfl S.co S.gen rfl (PySem.W.codeRec_of KX hcd) (hb _ _ _ _ ?_)
  refine wpAny_newFunctionEnv_cells S.kind hkind fun env he s1 x => ?_
  subst he
  refine ⟨lim.keeps x.toInCall.keep, codeAny_func ?_⟩
  obtain ⟨t, ht, hq⟩ := hbody cdv A outer s H vs Q E rfl (hr.deeper _) hg hsp
  have I : Inv (cxOf (L2.CX P w) P w K mg base N qual scope f cdv A outer s H E) [] (L2.start N vs) H s1 := inv_start S hr.hd e0 hl r x
  refine wpAny_mono (ht.run [] s1 (L2.start N vs) H _ I hq) (fun fl s' hs => ?_) fun e s' hs => hs
  have fin : ∀ {σ' : L2.St} {H' : Hp} {v : V} {u : Value}, Inv (cxOf (L2.CX P w) P w K mg base N qual scope f cdv A outer s H E) [] σ' H' s' → RelV v u → Q v H' → CE outer P w H s Q u s' :=
    fun {σ' H' v u} J rv q => ⟨v, H', J.os, J.bare, J.base, J.hok, rv, q⟩
  cases fl with
  | ret u =>
    obtain ⟨v, σ', H', J, rv, q⟩ := hs
    exact fin J rv q
  | next =>
    obtain ⟨σ', H', J, q⟩ := hs
    exact fin (v := V.non) (u := Value.none) J rfl q
  | brk =>
    obtain ⟨_, _, _, q⟩ := hs
    exact False.elim q
  | cont =>
    obtain ⟨_, _, _, q⟩ := hs
    exact False.elim q
/-- THE RULE for a def -/
theorem afn {P : Program} {w : World} {K : PySem.W.Frag} {mg : Str → Option Value} {base : Heap} {x qual : Str} {params : Arguments} {body : List Stmt} {scope : Scope} {dvs : List V} {kws : List (Str × V)} {f : Addr} {fd : FuncData} {N ps : List Str} {k : Nat} {sp : ASp}
    (F : FunD K x qual params body scope dvs kws f fd) (S : FnScope N ps scope) (len : ∀ ds h R E, sp ds h R E → ds.length = ps.length)
    (hbody : ∀ (cdv : Value) (A : Around) (outer : List Env) (s : Shared) (H : Hp) (W : XK) (ds : List D) (h : AH) (R : DK) (E : AXK), Room k (A.deeper (envOfC qual scope s.heap.objs.size f cdv)) → (gd → (A.deeper (envOfC qual scope s.heap.objs.size f cdv)).guards = some []) → sp ds h R E →
      Takes (cxOf (L2.CX P w) P w K mg base N qual scope f cdv A outer s H W) (fun c d _ H' => upXK P w K H E c d H') →
      ∃ t, BJ (cxOf (L2.CX P w) P w K mg base N qual scope f cdv A outer s H W) body t ∧ t { nx := fun _ h' => fgR R .non h', rt := fgR R } (astart N ds) h) :
    FnG gd P w K mg base (k + 1) f fd ps (upSp P w K sp) := by
  refine fn_G F S (fun vs H Q E ⟨ds, h, R, E', r, _, q, _⟩ => by rw [← r.length]; exact len _ _ _ _ q) fun cdv A outer s H vs Q W _ hr hg ⟨ds, h, R, E, r, hh, q, k1⟩ => ?_
  have tk : Takes (cxOf (L2.CX P w) P w K mg base N qual scope f cdv A outer s H W) (fun c d _ H' => upXK P w K H E c d H') := Takes.imp (takes_of rfl rfl rfl rfl) fun c d σ H' z => k1.ex c d H' z
  obtain ⟨t, ht, q2⟩ := hbody cdv A outer s H W ds h R E hr hg q tk
  refine ⟨_, ht, astart N ds, h, _, ?_, hh, q2, ⟨fun σ' h' τ' H' e1 hs' hh' ⟨h0, s0, q'⟩ => k1.rt .non .non h0 H' e1 .non (RHp.weak hh' s0) q', fun d v h' H' e1 rd hh' ⟨h0, s0, q'⟩ => k1.rt d v h0 H' e1 rd (RHp.weak hh' s0) q', fun _ _ _ _ _ _ _ z => z.elim, fun _ _ _ _ _ _ _ z => z.elim⟩⟩
  unfold astart L2.start
  rw [r.length]
  exact RS.start r _
/-- the callee runs -/
theorem run_G {X : Cx} {k : Nat} {f : Addr} {fd : FuncData} {ps : List Str} {sp : Sp} {E : XK} {pins : List (Addr × Obj)} {σ : L2.St} {H : Hp} {s : Shared} {Q : VK} {us : List Value} {vs : List V} (F : FnG gd X.prog X.w X.K X.mg X.base k f fd ps sp) (hr : Room k X.A) (hg : gd → X.A.guards = some []) (hb : Binds X.K fd ps []) (hx : Passes (L2.CX X.prog X.w) X E)
    (I : Inv X pins σ H s) (r : Vals vs us) (h : sp vs H Q E) : wpAny (model X.prog X.w) X.A (call (.ref f) us) (EP X pins σ Q) X.xe s := by
  have hl : us.length = ps.length := by rw [← r.length]; exact F.len _ _ _ _ h
  have hb' := hb s us I.kIn (by rw [List.append_nil]; exact hl)
  rw [List.append_nil] at hb'
  refine wpAny_call (codeAny_mono (F.run X.A X.stack s H ⟨us, []⟩ us vs Q E hr hg I.env0 hb' r h) fun r s' hq => ?_)
  cases r with
  | error e => exact hx pins σ H s e s' I hq
  | ok fl =>
    cases fl with
    | ret u => exact I.after hq
    | next => exact False.elim hq
    | brk => exact False.elim hq
    | cont => exact False.elim hq
section
variable {X : Cx} {e a : Expr} {es : List Expr} {ta : AE} {t : AA} {pos p : Pos} {k : Nat} {f : Addr} {fd : FuncData} {ps : List Str} {sp : ASp} {x : Str} {E : AXK}
/-- f(..) -/
def aCall (sp : ASp) (E : AXK) (t : AA) : AE := fun σ h R => t σ h fun ds h1 => sp ds h1 R E
/-- what such a call may let out is taken -/
def XPass (X : Cx) (E : AXK) : Prop := Passes (L2.CX X.prog X.w) X (upXK X.prog X.w X.K X.H_0 E)
theorem xpass0 : XPass X AX0 := fun _ _ _ _ _ _ _ h => by
  obtain ⟨_, _, _, _, _, _, _, _, _, _, _, _, z⟩ := h
  obtain ⟨_, _, _, _, _, _, _, z⟩ := z
  exact z.elim
theorem xpass (tk : Takes X (fun c d _ H' => upXK X.prog X.w X.K X.H_0 E c d H')) : XPass X E := passes_call tk fun _ _ _ _ z => z
theorem up_call {τ : L2.St} {H : Hp} {Q : VK} (e0 : HExt X.H_0 H) (q : upE X (aCall sp E t) τ H Q) : tCall (upSp X.prog X.w X.K sp) [] (upXK X.prog X.w X.K X.H_0 E) (upA X t) τ H Q := by
  obtain ⟨σ, h, R, hs, hh, q, c⟩ := q
  refine ⟨σ, h, _, hs, hh, q, fun ds vs h1 H1 e1 rds hh1 q1 => ?_⟩
  show upSp X.prog X.w X.K sp (vs ++ []) H1 Q _
  rw [List.append_nil]
  exact ⟨ds, h1, R, E, rds, hh1, q1, ⟨fun d v h' H' e2 rd hh' q' => c d v h' H' (e1.trans e2) rd hh' q', fun cls d H' ⟨C, fs, h', z1, z2, z3, z4, z5⟩ => ⟨C, fs, h', z1, z2, (e0.trans e1).trans z3, z4, z5⟩⟩⟩
theorem e_fn (F : FnG gd X.prog X.w X.K X.mg X.base k f fd ps (upSp X.prog X.w X.K sp)) (hr : Room k X.A) (hG : gd → X.A.guards = some []) (hg : Gl X x) (hm : X.mg x = some (.ref f)) (hk : PySem.W.keepIn X.K (.ref f) = true) (hb : Binds X.K fd ps []) (hx : XPass X E)
    (ha : AJ X (e :: es) t) (hdb : (x == ("__debug__" : Str)) = false := by decide) (he : starEach (e :: es) X.env = (false, eval e X.env) :: starEach es X.env := by rfl) (hpl : (backTo pos (starEach es X.env)).any (·.1) = false := by rfl) :
    EJ X (.Call (.Name x p) (e :: es) [] pos) (aCall sp E t) :=
  (show PE X (.Call (.Name x p) (e :: es) [] pos) (tCall (upSp X.prog X.w X.K sp) [] (upXK X.prog X.w X.K X.H_0 E) (upA X t)) from ⟨fun pins s σ H Q I h => by
    refine wpAny_Call_Name_kw (ld_glob I hg hm ?_ hdb)
    refine PySem.W.callWith_K (h₀ := X.base) I.ok.mod.kin hk (thn (ha.run pos pins s σ H _ I h) fun us s1 ⟨vs, H1, I1, r, q⟩ => ⟨I1.kIn, ?_⟩) he hpl
    have q : upSp X.prog X.w X.K sp (vs ++ []) H1 Q (upXK X.prog X.w X.K X.H_0 E) := q
    rw [List.append_nil] at q
    exact run_G F hr hG hb hx I1 r q⟩).imp fun τ H Q e0 q => up_call e0 q
theorem e_fn0 (F : FnG gd X.prog X.w X.K X.mg X.base k f fd ps (upSp X.prog X.w X.K sp)) (hr : Room k X.A) (hG : gd → X.A.guards = some []) (hg : Gl X x) (hm : X.mg x = some (.ref f)) (hk : PySem.W.keepIn X.K (.ref f) = true) (hb : Binds X.K fd ps []) (hx : XPass X E)
    (hdb : (x == ("__debug__" : Str)) = false := by decide) :
    EJ X (.Call (.Name x p) [] [] pos) (aCall sp E aNil) :=
  (show PE X (.Call (.Name x p) [] [] pos) (tCall (upSp X.prog X.w X.K sp) [] (upXK X.prog X.w X.K X.H_0 E) tNil) from ⟨fun pins s σ H Q I h => by
    refine wpAny_Call_Name_kw (ld_glob I hg hm ?_ hdb)
    exact PySem.W.callWith_K0 I.kIn hk (run_G (us := []) (vs := []) F hr hG hb hx I .nil h)⟩).imp fun τ H Q e0 q => by
    obtain ⟨σ, h, R, hs, hh, q, c⟩ := q
    exact ⟨[], h, R, E, .nil, hh, q, ⟨fun d v h' H' e2 rd hh' q' => c d v h' H' e2 rd hh' q', fun cls d H' ⟨C, fs, h', z1, z2, z3, z4, z5⟩ => ⟨C, fs, h', z1, z2, e0.trans z3, z4, z5⟩⟩⟩
/-- a promise of a pure def -/
def pureSp (F : List D → Option D) : ASp := fun ds h R _ => ∃ d, F ds = some d ∧ R d h
end
end AX

set_option Elab.async false
set_option linter.all false
set_option maxRecDepth 100000
set_option maxHeartbeats 4000000
namespace AX
open PySem PySem.Spec PyProof.Rows L2
/-- a def of the text, as a callee -/
structure Cal (gd : Prop) (P : Program) (w : World) (K : PySem.W.Frag) (mg : Str → Option Value) (base : Heap) (k : Nat) (x : Str) (ps : List Str) (sp : ASp) : Prop where
  ex : ∃ (f : Addr) (fd : FuncData), FnG gd P w K mg base k f fd ps (upSp P w K sp) ∧ mg x = some (.ref f) ∧ PySem.W.keepIn K (.ref f) = true ∧ Binds K fd ps []
abbrev FnP (K : PySem.W.Frag) (x : Str) (st : Stmt) (f : Addr) (fd : FuncData) : Prop := FunD K x x (defArgs st) (defBody st) (defScope st) [] [] f fd
theorem u65 {k : Nat} {A : Around} (r : Room k A) : A.units + 65 < cLine := by have := r.un; omega
section
variable {X : Cx} {e a b : Expr} {es : List Expr} {ta tb : AE} {t : AA} {tA : AT} {pos p p2 : Pos} {k k' : Nat} {ps : List Str} {sp : ASp} {x : Str} {E : AXK}
theorem e_cal (C : Cal gd X.prog X.w X.K X.mg X.base k x ps sp) (hr : Room k' X.A) (hG : gd → X.A.guards = some []) (hg : Gl X x) (hx : XPass X E)
    (ha : AJ X (e :: es) t) (hk : k ≤ k' := by decide) (hdb : (x == ("__debug__" : Str)) = false := by decide) (he : starEach (e :: es) X.env = (false, eval e X.env) :: starEach es X.env := by rfl) (hpl : (backTo pos (starEach es X.env)).any (·.1) = false := by rfl) :
    EJ X (.Call (.Name x p) (e :: es) [] pos) (aCall sp E t) := by
  obtain ⟨f, fd, F, h1, h2, h3⟩ := C.ex
  exact e_fn F (hr.mono hk) hG hg h1 h2 h3 hx ha hdb he hpl
theorem e_cal0 (C : Cal gd X.prog X.w X.K X.mg X.base k x ps sp) (hr : Room k' X.A) (hG : gd → X.A.guards = some []) (hg : Gl X x) (hx : XPass X E) (hk : k ≤ k' := by decide) (hdb : (x == ("__debug__" : Str)) = false := by decide) : EJ X (.Call (.Name x p) [] [] pos) (aCall sp E aNil) := by
  obtain ⟨f, fd, F, h1, h2, h3⟩ := C.ex
  exact e_fn0 F (hr.mono hk) hG hg h1 h2 h3 hx hdb
/-- a module's int -/
theorem e_glob {i : Int} (hg : Gl X x) (hm : ∃ u, X.mg x = some u ∧ RelV (.int i) u) (hd : (x == ("__debug__" : Str)) = false := by decide) : EJ X (.Name x p) (aC (.int i)) := by
  obtain ⟨u, h1, h2⟩ := hm
  exact e_c (t := tC (.int i)) (pe_glob hg h1 h2 hd) fun _ => .int i
def aNeg (te : AE) : AE := fun σ h R => te σ h fun x h1 => match x with
  | .int i => R (.int (-i)) h1
  | _ => False
theorem e_neg (he : EJ X e ta) : EJ X (.UnaryOp .USub e pos) (aNeg ta) := (pe_un un_neg he).imp fun τ H Q _ ⟨σ, h, R, hs, hh, q, c⟩ => ⟨σ, h, _, hs, hh, q, fun d v h1 H1 e1 rd hh1 q1 => by
  cases d <;> first | exact False.elim q1 | skip
  cases rd
  exact ⟨_, rfl, c _ _ _ _ e1 (.int _) hh1 q1⟩⟩
def aFgT (t : AT) : AT := fun σ h R => t σ h fun b h1 => ∃ h0, Sub h0 h1 ∧ R b h0
theorem t_fg (he : TJ X e tA) : TJ X e (aFgT tA) := he.imp fun τ H Q _ ⟨σ, h, R, hs, hh, q, c⟩ => ⟨σ, h, _, hs, hh, q, fun b h1 H1 e1 hh1 ⟨h0, s, q1⟩ => c b h0 H1 e1 (RHp.weak hh1 s) q1⟩
/-- list(range(n)) -/
def aListRg (te : AE) : AE := fun σ h R => te σ h fun x h1 => match x with
  | .int n => 0 ≤ n ∧ n ≤ 16777216 ∧ ∀ p, h1 p = none → R (.ref p) (aup h1 p (.lst (rgD 0 n.toNat)))
  | _ => False
theorem rds_rg {K : PySem.W.Frag} {H : Hp} : ∀ (n : Nat), RDs K H (rgD 0 n) ((List.range n).map fun i => V.int (0 + (i : Nat)))
  | 0 => .nil
  | n + 1 => by
    unfold rgD
    rw [List.range_succ, List.map_append, List.map_append]
    exact (rds_rg n).append (RDs.one (.int _))
theorem e_listRg {q : Pos} (hc : X.calm = true) (hg : Gl X "list") (hm : X.mg "list" = none) (hg2 : Gl X "range") (hm2 : X.mg "range" = none) (he : EJ X e ta) (na : starEach [e] X.env = (false, eval e X.env) :: starEach [] X.env := by rfl)
    (na2 : starEach [.Call (.Name "range" p2) [e] [] q] X.env = (false, eval (.Call (.Name "range" p2) [e] [] q) X.env) :: starEach [] X.env := by rfl) :
    EJ X (.Call (.Name "list" p) [.Call (.Name "range" p2) [e] [] q] [] pos) (aListRg ta) :=
  (pe_listRg hc hg hm (prg_1 hg2 hm2 he na) na2).imp fun τ H Q _ ⟨σ, h, R, hs, hh, q, c⟩ => ⟨σ, h, _, hs, hh, q, fun d v h1 H1 e1 rd hh1 q1 => by
    cases d <;> first | exact False.elim q1 | skip
    cases rd
    obtain ⟨b0, b1, q1⟩ := q1
    rename_i n
    refine ⟨n, rfl, RgOk.of_le (by decide) b1 (by decide) b0, fun p hp => ?_⟩
    have e : (n - 0).toNat = n.toNat := by rw [Int.sub_zero]
    unfold rgV
    rw [e]
    exact newLst hh1 hp (rds_rg n.toNat) (c.ext e1) q1⟩
/-- o[i] += e, a list's int -/
def aAugSub (to ti te : AE) : AS := fun E σ h => to σ h fun o h1 => ti σ h1 fun i h2 => match o, i with
  | .ref a, .int k => (match h2 a with
    | some (.lst xs) => (match atI xs k with
      | some (.int u) => te σ h2 fun y h3 => match y with
        | .int v => (match h3 a with
          | some (.lst ys) => (match ixN ys.length k with
            | some j => E.nx σ (aup h3 a (.lst (ys.set j (.int (u + v)))))
            | none => False)
          | _ => False)
        | _ => False
      | _ => False)
    | _ => False)
  | _, _ => False
theorem s_augSub {o i : Expr} {to ti : AE} {tpos : Pos} (ho : EJ X o to) (hi : EJ X i ti) (he : EJ X e ta)
    (ha : ∀ ov iv new, augStore i ov iv new = (do holding [new, ov, iv] (setItem ov iv new); release [new, ov, iv] []; pure .next) := by intros; rfl) : SJ X (.AugAssign (.Subscript o i tpos) .Add e pos) (aAugSub to ti ta) :=
  (ps_augS (tget := fun x y H Q => ∃ p xs i v, x = .ref p ∧ y = .int i ∧ SqL X.K H p xs ∧ atI xs i = some v ∧ Q v H) ho hi (fun pins s σ H o i ov iv Q I ro ri ⟨p, xs, k, v, e1, e2, hq, hv, q⟩ => by
      subst e1 e2
      cases ro
      obtain ⟨t, rfl⟩ := ri
      obtain ⟨its, rv, pl, hz⟩ := I.list hq
      obtain ⟨j, j1, j2, j3, j4, j5⟩ := atI_get hv
      obtain ⟨u, hu, ru⟩ := rv.get j2
      have hl := rv.length
      have hn := line63
      have fin : EP X pins σ Q u s := ⟨v, H, I, ru, q⟩
      by_cases h0 : 0 ≤ k
      · have hj : k.toNat = j := by
          rw [seqIndex_of h0 j5] at j1
          exact Option.some.inj j1
        exact wpAny_getItem_list pl.isList h0 (by omega) (by rw [hj]; simpa using hu) fin
      · have hj : (k + (its.toArray.size : Int)).toNat = j := by
          rw [seqIndex_neg (by omega) j4] at j1
          rw [List.size_toArray, ← hl]
          exact Option.some.inj j1
        exact wpAny_getItem_list_neg pl.isList (by omega) (by rw [List.size_toArray] <;> omega) (by omega) (by rw [hj]; simpa using hu) fin) he ip_add set_list ha).imp fun D τ H _ ⟨σ, h, E, hs, hh, q, kk⟩ => by
    refine ⟨σ, h, _, hs, hh, q, fun od ov h1 H1 e1 ro hh1 q1 => ⟨σ, h1, _, hs.mono e1, hh1, q1, fun id iv h2 H2 e2 ri hh2 q2 => ?_⟩⟩
    cases od <;> cases id <;> first | exact False.elim q2 | skip
    cases ro; cases ri
    simp only at q2
    split at q2
    · rename_i ea
      obtain ⟨ws, f1, r1⟩ := lstAt hh2 ea
      split at q2
      · rename_i u eu
        obtain ⟨v, ev, rv⟩ := atI_rds r1 eu
        cases rv
        refine ⟨_, _, _, _, rfl, rfl, .inl (.inl f1), ev, σ, h2, _, (hs.mono e1).mono e2, hh2, q2, fun yd yv h3 H3 e3 ry hh3 q3 => ?_⟩
        cases yd <;> first | exact False.elim q3 | skip
        cases ry
        simp only at q3
        split at q3
        · rename_i eb
          obtain ⟨zs, g1, r3⟩ := lstAt hh3 eb
          split at q3
          · rename_i j ej
            obtain ⟨x1, x2⟩ := RH.putL (xs := []) hh3 g1 (RDs.set (.int (u + _)) j r3)
            exact ⟨_, _, rfl, rfl, _, _, _, _, rfl, rfl, g1, by rw [← r3.length]; exact ej, kk.nx _ _ _ _ (((e1.trans e2).trans e3).trans x1) ((((hs.mono e1).mono e2).mono e3).mono x1) x2 q3⟩
          · exact q3.elim
        · exact q3.elim
      · exact q2.elim
    · exact q2.elim
end
end AX

set_option Elab.async false
set_option linter.all false
set_option maxRecDepth 100000
set_option maxHeartbeats 4000000
namespace AX
open PySem PySem.Spec PyProof.Rows L2
/-! ### readings, unfolded -/
section
variable {σ : ASt} {h : AH} {R : DK} {RB : Bool → AH → Prop} {RA : List D → AH → Prop} {E : AEnds} {ta tb : AE} {tA tB : AT} {t u : AS} {ts : AA} {i j n : Nat} {d e : D} {r : A2} {c : AC} {g : AG} {gs : AGs} {RS' : ASt → AH → Prop} {sp : ASp} {EX : AXK}
@[simp] theorem aVar_def : aVar i σ h R = (match σ[i]? with | some (some d) => R d h | _ => False) := rfl
@[simp] theorem aC_def : aC d σ h R = R d h := rfl
@[simp] theorem aOp_def : aOp r ta tb σ h R = ta σ h fun x h1 => tb σ h1 fun y h2 => r x y h2 R := rfl
@[simp] theorem aTest_def : aTest ta σ h RB = ta σ h fun x h' => (match x with | .bl k => RB k h' | _ => False) := rfl
@[simp] theorem aAnd_def : aAnd tA tB σ h RB = tA σ h fun k h1 => if k = true then tB σ h1 RB else RB false h1 := rfl
@[simp] theorem aOr_def : aOr tA tB σ h RB = tA σ h fun k h1 => if k = true then RB true h1 else tB σ h1 RB := rfl
@[simp] theorem aNot_def : aNot tA σ h RB = tA σ h fun k h1 => RB (!k) h1 := rfl
@[simp] theorem aIf_def : aIf tA ta tb σ h R = tA σ h fun k h1 => if k = true then ta σ h1 R else tb σ h1 R := rfl
@[simp] theorem aAndV_def : aAndV ta tb σ h R = ta σ h fun x h1 => (match x with | .bl k => if k = true then tb σ h1 R else R (.bl false) h1 | _ => False) := rfl
@[simp] theorem aOrV_def : aOrV ta tb σ h R = ta σ h fun x h1 => (match x with | .bl k => if k = true then R (.bl true) h1 else tb σ h1 R | _ => False) := rfl
@[simp] theorem aNotV_def : aNotV ta σ h R = ta σ h fun x h1 => (match x with | .bl k => R (.bl (!k)) h1 | _ => False) := rfl
@[simp] theorem aNil_def : aNil σ h RA = RA [] h := rfl
@[simp] theorem aCons_def : aCons ta ts σ h RA = ta σ h fun x h1 => ts σ h1 fun xs h2 => RA (x :: xs) h2 := rfl
@[simp] theorem aTup_def : aTup ts σ h R = ts σ h fun xs h1 => xs.length ≤ sizeLine ∧ R (.tup xs) h1 := rfl
@[simp] theorem aLst_def : aLst ts σ h R = ts σ h fun xs h1 => xs.length ≤ sizeLine ∧ ∀ p, h1 p = none → R (.ref p) (aup h1 p (.lst xs)) := rfl
@[simp] theorem aCB_def : aCB c ts σ h R = ts σ h fun ds h1 => c ds h1 R := rfl
@[simp] theorem aIsi_def {T : String} : aIsi T ta σ h R = ta σ h fun x h1 => ∃ ty, tyD h1 x = some ty ∧ R (.bl (isTy ty T)) h1 := rfl
@[simp] theorem aSeq_def : aSeq t u E σ h = t { E with nx := u E } σ h := rfl
@[simp] theorem aNext_def : aNext E σ h = E.nx σ h := rfl
@[simp] theorem aRet_def : aRet ta E σ h = ta σ h E.rt := rfl
@[simp] theorem aRetN_def : aRetN E σ h = E.rt .non h := rfl
@[simp] theorem aIfS_def : aIfS tA t u E σ h = tA σ h fun b h1 => if b = true then t E σ h1 else u E σ h1 := rfl
@[simp] theorem aDrop_def : aDrop ta E σ h = ta σ h fun _ h1 => E.nx σ h1 := rfl
@[simp] theorem aSet_def : aSet i ta E σ h = ta σ h fun d h1 => E.nx (σ.set i (some d)) h1 := rfl
@[simp] theorem aPar_def : aPar i j ts E σ h = ts σ h fun ds h1 => (match ds with | [d, e] => E.nx ((σ.set i (some d)).set j (some e)) h1 | _ => False) := rfl
@[simp] theorem aName_def : aName i d σ h RS' = RS' (σ.set i (some d)) h := rfl
@[simp] theorem aGNil_def {ds : List D} : aGNil ds σ h RS' = (match ds with | [] => RS' σ h | _ => False) := rfl
@[simp] theorem aGCons_def {ds : List D} : aGCons g gs ds σ h RS' = (match ds with | d :: r => g d σ h fun σ' h' => gs r σ' h' RS' | [] => False) := rfl
@[simp] theorem aGTup_def : aGTup n gs d σ h RS' = (match d with | .tup xs => xs.length = n ∧ gs xs σ h RS' | _ => False) := rfl
@[simp] theorem aAsg_def : aAsg ta g E σ h = ta σ h fun d h1 => g d σ h1 E.nx := rfl
@[simp] theorem aCall_def : aCall sp EX ts σ h R = ts σ h fun ds h1 => sp ds h1 R EX := rfl
@[simp] theorem aSl_def {tl th : AO} : aSl ta tl th σ h R = ta σ h fun x h1 => tl σ h1 fun l h2 => th σ h2 fun u h3 => rSl x l u h3 R := rfl
@[simp] theorem aNoPart_def {RO' : Option Int → AH → Prop} : aNoPart σ h RO' = RO' none h := rfl
@[simp] theorem aPart_def {RO' : Option Int → AH → Prop} : aPart ta σ h RO' = ta σ h fun x h1 => (match x with | .int i => RO' (some i) h1 | _ => False) := rfl
@[simp] theorem aM_def {T : String} {m : AM} : aM T m ta ts σ h R = ta σ h fun x h1 => tyM h1 x = some T ∧ ts σ h1 fun ds h2 => m x ds h2 R := rfl
@[simp] theorem aNeg_def : aNeg ta σ h R = ta σ h fun x h1 => (match x with | .int i => R (.int (-i)) h1 | _ => False) := rfl
@[simp] theorem aYes_def : aYes σ h RB = RB true h := rfl
@[simp] theorem rI2_def {C : Int → Int → Prop} {gg : Int → Int → D} {x y : D} : rI2 C gg x y h R = (match x, y with | .int i, .int j => C i j ∧ R (gg i j) h | _, _ => False) := rfl
@[simp] theorem rIxT_def {xs : List D} {z : Int} : rIx (.tup xs) (.int z) h R = (match atI xs z with | some d => R d h | none => False) := rfl
theorem atI_0 {α : Type} {x : α} {xs : List α} : atI (x :: xs) 0 = some x := atI_nat (j := 0) rfl
@[simp] theorem atI_lit0 {α : Type} {x : α} {xs : List α} : atI (x :: xs) 0 = some x := atI_nat (j := 0) rfl
@[simp] theorem atI_lit1 {α : Type} {x y : α} {xs : List α} : atI (x :: y :: xs) 1 = some y := atI_nat (j := 1) rfl
@[simp] theorem atI_lit2 {α : Type} {x y z : α} {xs : List α} : atI (x :: y :: z :: xs) 2 = some z := atI_nat (j := 2) rfl
@[simp] theorem atI_lit3 {α : Type} {x y z a : α} {xs : List α} : atI (x :: y :: z :: a :: xs) 3 = some a := atI_nat (j := 3) rfl
@[simp] theorem atI_lit4 {α : Type} {x y z a b : α} {xs : List α} : atI (x :: y :: z :: a :: b :: xs) 4 = some b := atI_nat (j := 4) rfl
@[simp] theorem cLenT_def {xs : List D} : cLen [.tup xs] h R = R (.int xs.length) h := rfl
@[simp] theorem tyD_tup {xs : List D} : tyD h (.tup xs) = some "tuple" := rfl
@[simp] theorem tyD_int {z : Int} : tyD h (.int z) = some "int" := rfl
@[simp] theorem tyD_bl {z : Bool} : tyD h (.bl z) = some "bool" := rfl
@[simp] theorem tyD_str {z : Str} : tyD h (.str z) = some "str" := rfl
@[simp] theorem tyD_non : tyD h .non = some "NoneType" := rfl
end
theorem seqOf_sub {h h' : AH} {x : D} {xs : List D} (s : Sub h h') (e : seqOf h x = some xs) : seqOf h' x = some xs := by
  cases x with
  | tup _ => exact e
  | ref a =>
    unfold seqOf at e ⊢
    simp only at e ⊢
    cases q : h a with
    | none => rw [q] at e; cases e
    | some o =>
      rw [s a o q]
      rw [q] at e
      exact e
  | _ => cases e
section
variable {ti : AI} {g : AG} {tt : AT} {te : AE} {vs : List Nat} {σ : ASt} {h h1 : AH} {R : DK} {s : AItems} {xs : List D}
/-- all([test for ..]) -/
theorem lcAll (f : D → Bool) (hq : ∀ R' : AItems → AH → Prop, (xs.length ≤ sizeLine → R' s h1) → ti σ h R') (hst : ∀ h', Sub h1 h' → s h' = some xs)
    (step : ∀ d ∈ xs, ∀ h', Sub h1 h' → ∀ K : DK, (∀ h'', Sub h' h'' → K (.bl (f d)) h'') → g d (awipe σ vs) h' fun σ2 h2 => te σ2 h2 K) (q : R (.bl (xs.all f)) h1) :
    aFg (aCB cAll (aCons (aLc ti g aYes te vs) aNil)) σ h R := by
  show aLc ti g aYes te vs σ h (fun d h1 => cAll [d] h1 (fun r h2 => ∃ h0, Sub h0 h2 ∧ R r h0))
  refine aLc_pure (fun d => some (.bl (f d))) hq hst (fun d hd h' hs K hK => ?_) fun p hp => ?_
  · unfold lcBody
    have := step d hd h' hs (fun y h4 => K (some y) h4) hK
    simpa using this
  · refine ⟨xs.map f, ?_, h1, .new hp, ?_⟩
    · rw [aup_same, List.filterMap_eq_map', List.map_map]; rfl
    · simpa [List.all_map] using q
/-- tuple([e for ..]) -/
theorem lcTup (f : D → Option D) (hq : ∀ R' : AItems → AH → Prop, (xs.length ≤ sizeLine → R' s h1) → ti σ h R') (hst : ∀ h', Sub h1 h' → s h' = some xs)
    (step : ∀ d ∈ xs, ∀ h', Sub h1 h' → ∀ K : Option D → AH → Prop, (∀ h'', Sub h' h'' → K (f d) h'') → lcBody g tt te (awipe σ vs) d h' K) (q : R (.tup (xs.filterMap f)) h1) :
    aFg (aCB cTuple (aCons (aLc ti g tt te vs) aNil)) σ h R := by
  show aLc ti g tt te vs σ h (fun d h1 => cTuple [d] h1 (fun r h2 => ∃ h0, Sub h0 h2 ∧ R r h0))
  refine aLc_pure f hq hst step fun p hp => ?_
  exact ⟨_, seqOf_ref aup_same, h1, .new hp, q⟩
end
end AX

set_option Elab.async false
set_option linter.all false
set_option maxRecDepth 100000
set_option maxHeartbeats 4000000
namespace AX
open PySem PySem.Spec PyProof.Rows L2
/-! ### raise -/
/-- an own exception class over ValueError without own __init__ -/
structure Exo (K : PySem.W.Frag) (mg : Str → Option Value) (x : Str) (C : Addr) : Prop where
  g : mg x = some (.ref C)
  exc : ∃ bmB, ExcBaseFacts "ValueError" "ValueError.__new__" "ValueError.__init__" bmB ∧ PySem.W.excIn K C bmB "ValueError.__new__" = true
  kp : PySem.W.keepIn K (.ref C) = true
  sub : PySem.W.subIn K (.ref C) (.type "BaseException") = some true
  ty : PySem.W.typeIn K (.ref C) = some (.type "type")
/-- C(..) makes an exception with these fields -/
def tMkXd (C : Addr) (names : List Str) (ta : TA) : L2.St → Hp → XK → Prop := fun σ H Q => ta σ H fun vs H1 => vs.length = names.length ∧ ∀ d, H1 d = none → Q (.ref C) (some d) (upd H1 d (.xd (names.zip vs)))
structure ExI (P : Program) (w : World) (K : PySem.W.Frag) (mg : Str → Option Value) (base : Heap) (x : Str) (C : Addr) (names : List Str) : Prop where
  g : mg x = some (.ref C)
  pm : ∀ (X : Cx) (k : Nat) (e : Expr) (es : List Expr) (ta : TA) (p pos : Pos), X.prog = P → X.w = w → X.K = K → X.mg = mg → X.base = base → Room (k + 2) X.A → Gl X x → PA X (e :: es) ta →
    starEach (e :: es) X.env = (false, eval e X.env) :: starEach es X.env → (backTo pos (starEach es X.env)).any (·.1) = false → PMk X (.Call (.Name x p) (e :: es) [] pos) (tMkXd C names ta)
section
variable {X : Cx} {x : Str} {C : Addr} {p pos pos2 : Pos} {E : AXK} {e : Expr} {es : List Expr} {t : AA}
theorem pmk_own0 (F : Exo X.K X.mg x C) (hg : Gl X x) (hdb : (x == ("__debug__" : Str)) = false := by decide) : PMk X (.Call (.Name x p) [] [] pos) (fun _ H Q => Q (.ref C) none H) := by
  intro pins s σ H Q I h
  obtain ⟨bmB, F1, q⟩ := F.exc
  refine wpAny_Call_Name_kw (ld_glob I hg F.g ?_ hdb)
  refine PySem.W.callWith_K0 I.kIn F.kp ?_
  show wpAny _ _ (call (.ref C) []) _ _ _
  obtain ⟨bm, N, nm, qn, bs, hdct, sn, sub, ab, col, dd, k0, k1, k2, k3, k5, mN, hC, hN, hni, T⟩ := exc_obj I.kIn q
  refine wpAny_call_exc_subT F1 T hC hN hni (fun h' e hm => ?_) (Nat.zero_le _)
  exact mk_of I hm (raises_own F.sub F.ty) h (I.hok.gone hm.new)
abbrev XTk (X : Cx) (E : AXK) : Prop := Takes X (fun c d _ H' => upXK X.prog X.w X.K X.H_0 E c d H')
def aRaise (E : AXK) (C : Addr) : AS := fun _ _ h => E C [] h
theorem s_raise0 (F : Exo X.K X.mg x C) (hg : Gl X x) (hc : X.calm = true) (tk : XTk X E) (hdb : (x == ("__debug__" : Str)) = false := by decide) : SJ X (.Raise (some (.Call (.Name x p) [] [] pos)) none pos2) (aRaise E C) :=
  (ps_raise hc tk (pmk_own0 F hg hdb)).imp fun D τ H e0 ⟨σ, h, E', hs, hh, q, k⟩ => ⟨C, [], h, rfl, True.intro, e0, hh, q⟩
def aRaiseI (E : AXK) (C : Addr) (names : List Str) (t : AA) : AS := fun _ σ h => t σ h fun ds h1 => ds.length = names.length ∧ 0 < ds.length ∧ E C (names.zip ds) h1
theorem zip_fst {α β : Type} : ∀ {a : List α} {b : List β}, b.length = a.length → (a.zip b).map (·.1) = a
  | [], _, _ => rfl
  | _ :: _, [], h => by simp at h
  | x :: a, y :: b, h => by rw [List.zip_cons_cons, List.map_cons, zip_fst (by simpa using h)]
theorem zip_snd {α β : Type} : ∀ {a : List α} {b : List β}, b.length = a.length → (a.zip b).map (·.2) = b
  | [], [], _ => rfl
  | [], _ :: _, h => by simp at h
  | _ :: _, [], h => by simp at h
  | x :: a, y :: b, h => by rw [List.zip_cons_cons, List.map_cons, zip_snd (by simpa using h)]
theorem s_raiseI {names : List Str} {k : Nat} (F : ExI X.prog X.w X.K X.mg X.base x C names) (hr : Room (k + 2) X.A) (hg : Gl X x) (hc : X.calm = true) (tk : XTk X E) (ha : AJ X (e :: es) t)
    (he : starEach (e :: es) X.env = (false, eval e X.env) :: starEach es X.env := by rfl) (hpl : (backTo pos (starEach es X.env)).any (·.1) = false := by rfl) : SJ X (.Raise (some (.Call (.Name x p) (e :: es) [] pos)) none pos2) (aRaiseI E C names t) :=
  (ps_raise hc tk (F.pm X k e es _ p pos rfl rfl rfl rfl rfl hr hg ha he hpl)).imp fun D τ H e0 ⟨σ, h, E', hs, hh, q, k⟩ =>
    ⟨σ, h, _, hs, hh, q, fun ds vs h1 H1 e1 rds hh1 ⟨hl, hp, q1⟩ => ⟨by rw [← rds.length]; exact hl, fun d hd => by
      have hlv : vs.length = names.length := by rw [← rds.length]; exact hl
      refine ⟨C, names.zip ds, h1, rfl, ?_, (e0.trans e1).trans (.new hd), hh1.junk hd, q1⟩
      have hne : names.zip ds ≠ [] := fun z => by
        have h0 : (names.zip ds).length = 0 := by rw [z]; rfl
        rw [List.length_zip, ← hl, Nat.min_self] at h0
        exact absurd hp (by rw [h0]; exact Nat.lt_irrefl 0)
      cases hz : names.zip ds with
      | nil => exact absurd hz hne
      | cons a r =>
        rw [← hz]
        have fin : ∃ dd gs, some d = some dd ∧ h1 dd = none ∧ (upd H1 d (.xd (names.zip vs))) dd = some (.xd gs) ∧ gs.map (·.1) = (names.zip ds).map (·.1) ∧ RDs X.K (upd H1 d (.xd (names.zip vs))) ((names.zip ds).map (·.2)) (gs.map (·.2)) :=
          ⟨d, _, rfl, hh1.free hd, upd_same, by rw [zip_fst hlv, zip_fst hl], by rw [zip_snd hlv, zip_snd hl]; exact rds.mono (.new hd)⟩
        rw [hz] at fin ⊢
        exact fin⟩⟩
end
end AX

set_option Elab.async false
set_option linter.all false
set_option maxRecDepth 100000
set_option maxHeartbeats 4000000
namespace AX
open PySem PySem.Spec PyProof.Rows L2
/-! ### repr -/
def cRepr : AC := fun ds h R => match ds with
  | [.int i] => i.natAbs.log2 < 1920 ∧ R (.str (toString i)) h
  | [.tup xs] => okd 60 (.tup xs) = true ∧ (toP (.tup xs)).showable = true ∧ (toP (.tup xs)).shown.length ≤ sizeLine ∧ R (.str (toP (.tup xs)).shown) h
  | [.ref a] => ∃ xs, h a = some (.lst xs) ∧ xs.all (okd 60) = true ∧ (PyData.list (toPs xs)).showable = true ∧ (PyData.list (toPs xs)).shown.length ≤ sizeLine ∧ R (.str (PyData.list (toPs xs)).shown) h
  | _ => False
section
variable {X : Cx}
theorem call_repr (hu : X.A.units + 64 < cLine) (hG : X.A.guards = some []) : CJ X (.builtin "repr") cRepr := by
  intro pins s σ H xs us Q I rv ⟨ds, h, R, rds, hh, q, c⟩
  match ds, q with
  | [.int i], ⟨h1, q⟩ =>
    cases rds with
    | cons r1 r2 =>
      cases r2; cases r1
      exact SkE.call_repr_int pins s σ H _ us Q I rv ⟨_, rfl, h1, c _ _ _ _ (.refl H) (.str _) hh q⟩
  | [.tup ys], ⟨o1, o2, o3, q⟩ =>
    cases rds with
    | cons r1 r2 =>
      cases r2
      have r1' := r1
      cases rv with
      | cons ru rr =>
        cases rr
        obtain ⟨as, rd⟩ := Dp.reads I _ _ _ (RD.dp 60 _ _ o1 r1) ru
        cases r1
        cases ru
        obtain ⟨l1, l2⟩ := okd_lay 60 _ o1
        exact PySem.repr_of_reads' rd o2 (PySem.PyData.noDict_hsm (PySem.PyData.hasDict_of_canLay _ l1)) hG (by omega) (fun _ _ e => e) (fun h' u tk k => ⟨.str _, H, I.kept k, ⟨_, rfl⟩, c _ _ _ _ (.refl H) (.str _) hh q⟩) o3
  | [.ref a], ⟨ys, e, o1, o2, o3, q⟩ =>
    cases rds with
    | cons r1 r2 =>
      cases r2; cases r1
      cases rv with
      | cons ru rr =>
        cases rr
        cases ru
        obtain ⟨vs, e1, r1⟩ := lstAt hh e
        obtain ⟨as, rd⟩ := Dp.reads I (.list (toPs ys)) (.ref a) (.ref a) (.lst (.inl (.inl e1)) (RDs.dp 60 _ _ o1 r1)) rfl
        obtain ⟨l1, l2⟩ := okd_lay 61 (.tup ys) o1
        have l1' : (PyData.list (toPs ys)).canLay0 = true := by simpa only [toP, PyData.canLay0] using l1
        have l2' : (PyData.list (toPs ys)).depth ≤ 61 := by simpa only [toP, PyData.depth] using l2
        exact PySem.repr_of_reads' rd o2 (PySem.PyData.noDict_hsm (PySem.PyData.hasDict_of_canLay _ l1')) hG (by omega) (fun _ _ e => e) (fun h' u tk k => ⟨.str _, H, I.kept k, ⟨_, rfl⟩, c _ _ _ _ (.refl H) (.str _) hh q⟩) o3
/-! ### dict comprehensions -/
def putKD (kvs : List (Key × D)) (k : Key) (v : D) : List (Key × D) := if kvs.any (fun kv => decide (kv.1 = k)) then kvs.map fun kv => if kv.1 = k then (kv.1, v) else kv else kvs ++ [(k, v)]
theorem put_rel {K : PySem.W.Frag} {H : Hp} {k : Key} {z : D} {y : V} (rz : RD K H z y) {kvs : List (Key × D)} {ws : List (Key × V)} (e : ws.map (·.1) = kvs.map (·.1)) (r : RDs K H (kvs.map (·.2)) (ws.map (·.2))) :
    (putK ws k y).map (·.1) = (putKD kvs k z).map (·.1) ∧ RDs K H ((putKD kvs k z).map (·.2)) ((putK ws k y).map (·.2)) := by
  have ha : (ws.any fun kv => decide (kv.1 = k)) = (kvs.any fun kv => decide (kv.1 = k)) := by
    have h1 : (ws.any fun kv => decide (kv.1 = k)) = (ws.map (·.1)).any fun x => decide (x = k) := by rw [List.any_map]; rfl
    have h2 : (kvs.any fun kv => decide (kv.1 = k)) = (kvs.map (·.1)).any fun x => decide (x = k) := by rw [List.any_map]; rfl
    rw [h1, h2, e]
  have rep : ∀ {kvs : List (Key × D)} {ws : List (Key × V)}, ws.map (·.1) = kvs.map (·.1) → RDs K H (kvs.map (·.2)) (ws.map (·.2)) →
      (ws.map fun kv => if kv.1 = k then (kv.1, y) else kv).map (·.1) = (kvs.map fun kv => if kv.1 = k then (kv.1, z) else kv).map (·.1) ∧ RDs K H ((kvs.map fun kv => if kv.1 = k then (kv.1, z) else kv).map (·.2)) ((ws.map fun kv => if kv.1 = k then (kv.1, y) else kv).map (·.2)) := by
    intro kvs
    induction kvs with
    | nil => intro ws e r; cases ws with
      | nil => exact ⟨rfl, .nil⟩
      | cons _ _ => simp at e
    | cons p kvs ih =>
      intro ws e r
      cases ws with
      | nil => simp at e
      | cons q ws =>
        rw [List.map_cons, List.map_cons] at e
        obtain ⟨e1, e2⟩ := List.cons.inj e
        rw [List.map_cons, List.map_cons] at r
        cases r with
        | cons r1 r2 =>
          obtain ⟨i1, i2⟩ := ih e2 r2
          simp only [List.map_cons]
          by_cases h : p.1 = k
          · have h' : q.1 = k := e1.trans h
            simp only [h, h', if_true]
            exact ⟨by rw [i1], .cons rz i2⟩
          · have h' : ¬ q.1 = k := fun t => h (e1.symm.trans t)
            simp only [h, h', if_false]
            exact ⟨by rw [i1, e1], .cons r1 i2⟩
  unfold putK putKD
  rw [ha]
  split
  · exact rep e r
  · rw [List.map_append, List.map_append, List.map_append, List.map_append]
    exact ⟨by rw [e]; rfl, r.append (RDs.one rz)⟩
theorem RH.putK {h : AH} {H : Hp} {l : Addr} {kvs : List (Key × D)} {vs ws : List (Key × V)} (hh : RH X h H) (e : H l = some (.dK vs)) (r1 : ws.map (·.1) = kvs.map (·.1)) (r : RDs X.K H (kvs.map (·.2)) (ws.map (·.2))) : HExt H (upd H l (.dK ws)) ∧ RH X (aup h l (.dK kvs)) (upd H l (.dK ws)) := by
  have x : HExt H (upd H l (.dK ws)) := .write e (fun _ => nofun) fun _ _ => nofun
  exact ⟨x, RHp.put hh x ⟨ws, upd_same, r1, r.mono x⟩ fun q z => by rw [e] at z; unfold LamX.CodeO at z; cases z⟩
variable {tg iter kx vx : Expr} {ifs : List Expr} {scope : Scope} {own : List (Str × Nat)} {ti : AI} {g : AG} {tt : AT} {tk tv : AE} {us : List Nat} {l : Bool} {pos : Pos}
def dcBody (g : AG) (tt : AT) (tk tv : AE) (σ : ASt) (d : D) (h : AH) (K : Option (D × D) → AH → Prop) : Prop := g d σ h fun σ2 h2 => tt σ2 h2 fun b h3 => if b = true then tk σ2 h3 fun x h4 => tv σ2 h4 fun y h5 => K (some (x, y)) h5 else K none h3
def aDc (ti : AI) (g : AG) (tt : AT) (tk tv : AE) (vs : List Nat) : AE := fun σ h R => ti σ h fun s h1 => ∃ xs, s h1 = some xs ∧ ∀ p, h1 p = none → ∃ W : Nat → AH → Prop, W 0 (aup h1 p (.dK [])) ∧ ∀ i h, W i h → s h = some xs ∧ (match xs[i]? with
  | none => R (.ref p) h
  | some d => dcBody g tt tk tv (awipe σ vs) d h fun o h4 => match o with
    | some (x, y) => ∃ kvs k h5, KK x = some k ∧ h4 p = some (.dK kvs) ∧ kvs.length < sizeLine ∧ Sub h5 (aup h4 p (.dK (putKD kvs k y))) ∧ W (i + 1) h5
    | none => ∃ h5, Sub h5 h4 ∧ W (i + 1) h5)
theorem e_dc (hc : X.calm = true) (hN : X.N.Nodup) (hi : IJ X l tg iter ti) (ok : BlkOk X.N X.env.scope scope own)
    (hg : ∀ (s : Shared) (H : Hp) (C : Addr) (cl : List (Str × Addr)) (fp : List Addr), GJ (X.blk s H scope (compEnvC scope cl C X.env) fp) l tg us g) (ht : ∀ (s : Shared) (H : Hp) (C : Addr) (cl : List (Str × Addr)) (fp : List Addr), TsJ (X.blk s H scope (compEnvC scope cl C X.env) fp) ifs tt)
    (hk : ∀ (s : Shared) (H : Hp) (C : Addr) (cl : List (Str × Addr)) (fp : List Addr), EJ (X.blk s H scope (compEnvC scope cl C X.env) fp) kx tk)
    (he : ∀ (s : Shared) (H : Hp) (C : Addr) (cl : List (Str × Addr)) (fp : List Addr), EJ (X.blk s H scope (compEnvC scope cl C X.env) fp) vx tv) (hus : ∀ i ∈ us, i ∈ own.map (·.2) := by decide) (hs : ∀ x, foldedSetIterable iter X.env x = pure x := by intro _; rfl) :
    EJ X (.DictComp kx vx [⟨tg, iter, ifs, 0⟩] scope pos) (aDc ti g tt tk tv (own.map (·.2))) :=
  PE.imp (t' := tDc (upI X l ti) (upG X l us g) (upT X tt) (upE X tk) (upE X tv) (own.map (·.2))) (pe_dc hc hN hi ok hg ht hk he hs) fun τ H Q _ ⟨σ, h, R, hs, hh, q, c⟩ => by
    refine ⟨σ, h, _, hs, hh, q, fun s h1 H1 e1 hh1 ⟨xs, ex, q1⟩ J good p hp => ?_⟩
    obtain ⟨W, w0, step⟩ := q1 p (RHp.free hh1 hp)
    have x1 : HExt H1 (upd H1 p (.dK [])) := .new hp
    refine ⟨fun i m H' => ∃ h', HExt (upd H1 p (.dK [])) H' ∧ RH X h' H' ∧ W i h' ∧ i + m = xs.length, ⟨xs.length, _, .refl _, RHp.new hh1 (o' := .dK []) hp ⟨[], upd_same, rfl, .nil⟩, w0, by omega⟩, fun i m H2 ⟨h2, e2, hh2, w2, em⟩ => ?_⟩
    obtain ⟨es, st⟩ := step i h2 w2
    obtain ⟨gd1, gd2⟩ := good i h2 H2 xs (x1.trans e2) hh2 es
    cases q2 : xs[i]? with
    | none =>
      rw [q2] at st
      exact .inl ⟨gd1 q2, c _ _ _ _ ((e1.trans x1).trans e2) (.ref p) hh2 st⟩
    | some d =>
      rw [q2] at st
      have st : dcBody g tt tk tv (awipe σ (own.map (·.2))) d h2 fun o h4 => match o with
        | some (x, y) => ∃ kvs k h5, KK x = some k ∧ h4 p = some (.dK kvs) ∧ kvs.length < sizeLine ∧ Sub h5 (aup h4 p (.dK (putKD kvs k y))) ∧ W (i + 1) h5
        | none => ∃ h5, Sub h5 h4 ∧ W (i + 1) h5 := st
      unfold dcBody at st
      have hi := (List.getElem?_eq_some_iff.mp q2).1
      obtain ⟨go, yld⟩ := gd2 d q2
      refine .inr ⟨go, fun H' => ∃ h', HExt (upd H1 p (.dK [])) H' ∧ RH X h' H' ∧ W (i + 1) h', fun H' ⟨h', z1, z2, z3⟩ => ⟨m - 1, by omega, h', z1, z2, z3, by omega⟩, fun v H3 hy => ?_⟩
      obtain ⟨x3, hh3, rd⟩ := yld v H3 hy
      have hs3 : RS X.K H3 σ τ := hs.mono (((e1.trans x1).trans e2).trans x3)
      refine ⟨d, awipe σ (own.map (·.2)), h2, _, rd, RS.wipe hs3 _, hh3, st, fun σ4 h4 τ4 H4 e4 hs4 hh4 fr q4 => ⟨wipe_fr fr hus, ?_⟩⟩
      refine ⟨σ4, h4, _, hs4, hh4, q4, fun b h5 H5 e5 hh5 q5 => ?_⟩
      cases b with
      | true =>
        rw [if_pos rfl] at q5
        refine iteT ⟨σ4, h5, _, hs4.mono e5, hh5, q5, fun x vx h6 H6 e6 rx hh6 q6 => ⟨σ4, h6, _, (hs4.mono e5).mono e6, hh6, q6, fun y vy h7 H7 e7 ry hh7 ⟨kvs, k, h8, a0, a1, a2, a3, a4⟩ => ?_⟩⟩
        obtain ⟨ws, f1, f2, r1⟩ := hh7 p _ a1
        obtain ⟨p1, p2⟩ := put_rel ry f2 r1
        obtain ⟨z1, z2⟩ := RH.putK hh7 f1 p1 p2
        have hl : ws.length = kvs.length := by simpa using congrArg List.length f2
        exact ⟨ws, k, kV_of (rx.mono e7) a0, f1, by rw [hl]; exact a2, h8, (((((e2.trans x3).trans e4).trans e5).trans e6).trans e7).trans z1, RHp.weak z2 a3, a4⟩
      | false =>
        rw [if_neg Bool.false_ne_true] at q5
        obtain ⟨h6, a3, a4⟩ := q5
        exact iteF ⟨h6, ((e2.trans x3).trans e4).trans e5, RHp.weak hh5 a3, a4⟩
end
end AX

set_option Elab.async false
set_option linter.all false
set_option maxRecDepth 100000
set_option maxHeartbeats 4000000
namespace PySem
namespace AXI
open PySem.W PySem.Calls PyProof.Rows PySem.HandSPX
abbrev bmVE : List Value := [.type "ValueError", .type "Exception", .type "BaseException", .type "object"]
/-- what the written part says of an exception class whose __init__ says super().__init__(..) -/
structure IniTxt (K : Frag) (mg : Str → Option Value) (prog : Program) (C fI cda cc : Addr) (fd : FuncData) : Prop where
  cls : ∃ nm q N bs bm sn sub ab col dd k0 k1 k2 k3 k5, K.lookup C = some (excClassObj nm q C N bs bm true sn sub ab col dd k0 k1 k2 k3 k5 "ValueError.__new__") ∧ refsVE bm = true
  q : excInitIn K C bmVE "ValueError.__new__" = true
  iC : findIn K (.ref C) "__init__" = some (some (.ref fI))
  tI : typeIn K (.ref fI) = some (.type "function")
  sa : findIn K (.ref C) "__setattr__" = some (some (.builtin "object.__setattr__"))
  sup : ks_superIn K C C "__init__" = some (some (.builtin "ValueError.__init__"))
  kB : subIn K (.ref C) (.type "ValueError") = some true
  st : nsIn K cStatics "thirdparty.any" = some none
  cell : ∃ cl cld csl, K.lookup cc = some ⟨cl, cld, .cell (some (.ref C)), csl⟩
  mr : mroIn K C (.ref C) = some true
  code : ∃ ccl cdd vs ccs file tf, K.lookup cda = some ⟨ccl, cdd, .fields vs, ccs⟩ ∧ vs[2]? = some (.str file tf) ∧ ((prog.main.file : Str) == file) = true
  fn : ∃ oc od osl, K.lookup fI = some ⟨oc, od, .func fd, osl⟩
  cin : codeIn K (.ref cda) fd.qualname = true
  su : mg "super" = none
  top : (prog.main.scope.names.lookup ("super" : Str)).isSome = false
  exC : subIn K (.ref C) (.type "BaseException") = some true
  tyC : typeIn K (.ref C) = some (.type "type")
  kC : keepIn K (.ref C) = true
/-- the globals and the builtins lie there -/
structure Gs (mg : Str → Option Value) (h : Heap) : Prop where
  g : h.Ns mainGlobals mg
  b : ∃ mb, h.Ns builtinsNs mb ∧ ∀ x : Str, x ≠ "__name__" → mb x = bootBuiltins x
section
variable {prog : Program} {w : World} {A : Around} {E : Value → Shared → Prop} {s : Shared} {h₀ : Heap} {L : Addr} {m mg : Str → Option Value} {news : List (Addr × Obj)} {K : Frag} {x C D f cc cda : Addr} {ox : Obj} {odx : Option Obj}
theorem super_node {body : List Stmt} {q : Str} {scope : Scope} {p0 p1 : Pos} {attr : Str} {whole : Sem Value} {fd : FuncData} {ar : Arg} {vs : Array Value} {file : Str} {tf : Tok} {oc ccl cl : Value} {od cdd cld : Option Addr} {osl ccs csl : Array (Option Value)} {cdD : ClassData} {Q : Value → Shared → Prop}
    (F : Fr h₀ L s.heap m) (X₀ : K.In h₀) (N : News h₀ L s.heap news) (G : Gs mg h₀) (su : mg "super" = none)
    (hf : K.lookup f = some ⟨oc, od, .func fd, osl⟩) (hp : (fd.params.posonlyargs ++ fd.params.args).head? = some ar) (hv : m ar.arg = some (.ref x)) (I : InstAt s.heap x ox C odx)
    (hcode : K.lookup cda = some ⟨ccl, cdd, .fields vs, ccs⟩) (hvs : vs[2]? = some (.str file tf)) (hfile : ((prog.main.file : Str) == file) = true)
    (hcell : K.lookup cc = some ⟨cl, cld, .cell (some (.ref D)), csl⟩) (hD : clsIn K D = some cdD) (hsub : mroIn K C (.ref D) = some true)
    (hat : (attr == ("__class__" : Str)) = false) (hks : scope.names.lookup ("super" : Str) = some .globalImplicit) (hkc : scope.names.lookup ("__class__" : Str) = some .free) (hka : scope.names.lookup ar.arg = some .local) (hk : scope.kind = .function)
    (htop : (prog.main.scope.names.lookup ("super" : Str)).isSome = false)
    (h : ∀ so h', Fr h₀ L h' m → News h₀ L h' ((so, ks_superObj D x C) :: news) → (∀ p ∈ news, p.1 < so) → Q (.ref so) { s with heap := h' }) :
    _root_.PySem.wpAt (model prog w) A (.func body (ksEnv q scope L f (.ref cda) cc)) (attributeBase (.Call (.Name "super" p0) [] [] p1) attr (ksEnv q scope L f (.ref cda) cc) whole) Q E s := by
  have X : K.In s.heap := X₀.keeps F.keep
  obtain ⟨mb, gb, gv⟩ := G.b
  obtain ⟨hh, g, d, t, os⟩ := s
  have hD' : ∃ oD, hh.get? D = some oD ∧ oD.data = .cls cdD := by
    unfold clsIn at hD
    split at hD
    · rename_i ho
      cases hD
      exact ⟨_, X _ _ ho, rfl⟩
    · cases hD
  obtain ⟨oD, hD1, hD2⟩ := hD'
  refine ks_wpAt_super_base (env := ksEnv q scope L f (.ref cda) cc) hks hkc hat rfl (X _ _ hf) rfl hp rfl (X _ _ hcode) rfl hvs hfile htop ?_
  refine ks_loadName_global hk hks (loadGlobal_builtin (env := ksEnv q scope L f (.ref cda) cc) (G.g.keeps F.keep) su (gb.keeps F.keep) ((gv _ (by decide)).trans (show bootBuiltins "super" = some (.type "super") by kernel_rfl)) ⟨rfl, ?_⟩)
  refine wpAny_loadName_free hk hkc rfl ⟨_, X _ _ hcell, rfl⟩ ?_
  refine wpAny_loadName_local hk hka F.ns hv ?_
  refine ks_wpAny_isType_cls hD1 hD2 ⟨rfl, ?_⟩
  refine ks_wpAny_call_super hD1 hD2 I.at_ I.cls (fun c e => ?_) (looks_mroIn X hsub) (fun h' e k => ?_)
  · have := I.no
    unfold notCls at this
    rw [e] at this
    exact Bool.noConfusion this
  · obtain ⟨F', N', l'⟩ := ks_newsPush (s := ⟨hh, g, d, t, os⟩) F N rfl e k
    exact h _ _ F' N' l'
/-- a made one -/
structure Made (h h' : Heap) (e C d : Addr) (mA : Str → Option Value) : Prop where
  keep : ∀ b o, h.get? b = some o → h'.get? b = some o
  new : h.objs.size ≤ e
  obj : ∃ oe vs, h'.get? e = some oe ∧ oe.cls = .ref C ∧ oe.dict = some d ∧ oe.data = .fields vs ∧ vs[1]? = some .none
  dbig : h.objs.size ≤ d
  dne : d ≠ e
  ns : h'.Ns1 d mA
theorem clsIn_exc {nm q : Str} {N : Addr} {bs bm : List Value} {sn : List Str} {sub : List Value} {ab : Bool} {col : Option Bool} {dd : Option Addr} {k0 k1 k2 k3 k5 : Option Value} (hC : K.lookup C = some (excClassObj nm q C N bs bm true sn sub ab col dd k0 k1 k2 k3 k5 "ValueError.__new__")) :
    clsIn K C = some { name := nm, bases := bs, mro := .ref C :: bm, ns := N, qualname := q, hasDict := true, slotNames := sn, subclasses := sub, abstract := ab, collection := col, hasDel := false } := by
  unfold clsIn; rw [hC] <;> rfl
/-- after super().__init__(..): the rest of the body, the exception bare -/
theorem super_stmt {body rest : List Stmt} {q : Str} {scope : Scope} {p0 p1 p2 p3 p4 : Pos} {es : List Expr} {e : Expr} {us : List Value} {fd : FuncData} {fI t0 : Addr} {ar : Arg} {pl : Sem Bool} {Q : Flow → Shared → Prop} (T : IniTxt K mg prog C fI cda cc fd)
    (F : Fr h₀ L s.heap m) (X₀ : K.In h₀) (N : News h₀ L s.heap [(x, excObj C t0 none .none)]) (G : Gs mg h₀)
    (hp : (fd.params.posonlyargs ++ fd.params.args).head? = some ar) (hv : m ar.arg = some (.ref x))
    (hks : scope.names.lookup ("super" : Str) = some .globalImplicit) (hkc : scope.names.lookup ("__class__" : Str) = some .free) (hka : scope.names.lookup ar.arg = some .local) (hk : scope.kind = .function) (hz : us.length ≤ sizeLine)
    (hargs : ∀ (s' : Shared) (Q : List Value → Shared → Prop) (E : Value → Shared → Prop), Fr h₀ L s'.heap m → Q us s' → wpAny (model prog w) A (spliced (backTo p3 (starEach (e :: es) (ksEnv q scope L fI (.ref cda) cc)))) Q E s')
    (he : starEach (e :: es) (ksEnv q scope L fI (.ref cda) cc) = (false, eval e (ksEnv q scope L fI (.ref cda) cc)) :: starEach es (ksEnv q scope L fI (.ref cda) cc)) (hplain : (backTo p3 (starEach es (ksEnv q scope L fI (.ref cda) cc))).any (·.1) = false)
    (h : ∀ t' h' tk, Fr h₀ L h' m → h'.get? x = some (excObj C t' none .none) → _root_.PySem.wpAt (model prog w) A (.func body (ksEnv q scope L fI (.ref cda) cc)) (execs rest (ksEnv q scope L fI (.ref cda) cc)) Q E { s with heap := h', toks := tk })
    (hi : interactive (ksEnv q scope L fI (.ref cda) cc) = false)
    (hev : eval (.Call (.Attribute (.Call (.Name "super" p0) [] [] p1) "__init__" p2) (e :: es) [] p3) (ksEnv q scope L fI (.ref cda) cc) = (do
      let ov ← attributeBase (.Call (.Name "super" p0) [] [] p1) "__init__" (ksEnv q scope L fI (.ref cda) cc) (eval (.Call (.Name "super" p0) [] [] p1) (ksEnv q scope L fI (.ref cda) cc))
      standAt p2.atName
      let (f, first) ← holding [ov] (getMethod ov "__init__" pl)
      callWith p3 f first (backTo p3 (starEach (e :: es) (ksEnv q scope L fI (.ref cda) cc))) [])) :
    _root_.PySem.wpAt (model prog w) A (.func body (ksEnv q scope L fI (.ref cda) cc)) (execs (.Expr (.Call (.Attribute (.Call (.Name "super" p0) [] [] p1) "__init__" p2) (e :: es) [] p3) p4 :: rest) (ksEnv q scope L fI (.ref cda) cc)) Q E s := by
  obtain ⟨oc, od, osl, hf⟩ := T.fn
  obtain ⟨ccl, cdd, vs, ccs, file, tf, hcode, hvs, hfile⟩ := T.code
  obtain ⟨cl, cld, csl, hcell⟩ := T.cell
  obtain ⟨nm, qq, NN, bs, bm, sn, sub, ab, col, dd, k0, k1, k2, k3, k5, hC, hbm⟩ := T.cls
  have hcl := clsIn_exc hC
  have I : InstAt s.heap x (excObj C t0 none .none) C none := ⟨(N (x, excObj C t0 none .none) (by simp)).1, rfl, rfl, trivial⟩
  refine ks_wpAt_execs_cons (ks_wpAt_Expr_any (ks_wpAt_MethodCall (pl := pl) ?_ hev) hi)
  refine super_node F X₀ N G T.su hf hp hv I hcode hvs hfile hcell hcl T.mr (by decide) hks hkc hka hk T.top fun so h1 F1 N1 l1 => ?_
  have mx : (x, excObj C t0 none .none) ∈ [(so, ks_superObj C x C), (x, excObj C t0 none .none)] := by simp
  have I1 : InstAt h1 x (excObj C t0 none .none) C none := ⟨(N1 _ mx).1, rfl, rfl, trivial⟩
  refine kxs_method (s := { s with heap := h1 }) kxs_ValueError F1 X₀ N1 (by simp) I1 T.st T.sup T.kB (by decide) fun q2 h2 F2 N2 l2 => ?_
  have mq : (q2, kxs_mw "ValueError.__init__" x) ∈ [(q2, kxs_mw "ValueError.__init__" x), (so, ks_superObj C x C), (x, excObj C t0 none .none)] := by simp
  refine kxs_callWith1 N2 mq (hargs _ _ _ F2 ⟨(N2 _ mq).1, ?_⟩) he hplain
  have ne1 : so ≠ x := (Nat.ne_of_lt (l1 (x, excObj C t0 none .none) (by simp))).symm
  have ne2 : q2 ≠ x := (Nat.ne_of_lt (l2 (x, excObj C t0 none .none) (by simp))).symm
  refine kxs_call (s := { s with heap := h2, toks := s.toks + 1 }) F2 X₀ N2 _root_.PySem.F.excBase_ValueError T.q mq (UpdF.tail ne2 (UpdF.tail ne1 (UpdF.head (by simp)))) hz fun t' h3 F3 N3 l3 => ?_
  exact h t' h3 _ F3 (N3 (x, excObj C t' none .none) (by simp)).1
/-! ### __init__(self, a) and __init__(self, a, b) -/
def iArgs (ns : List (Str × Pos)) : Arguments := { posonlyargs := [], args := ns.map fun p => { arg := p.1, annotation := none, pos := p.2 }, vararg := none, kwonlyargs := [], kw_defaults := [], kwarg := none, defaults := [] }
def iScope (ns : List Str) : Scope := { kind := .function, names := (("self" : Str) :: ns).map (fun n => (n, NameKind.local)) ++ [(("__class__" : Str), NameKind.free), (("super" : Str), NameKind.globalImplicit)], isGenerator := false, isCoroutine := false, more := [] }
theorem cell1 : ∀ x ∈ (iScope ["fault"]).names, x.2 ≠ .cell := by decide
theorem loc1 (u v : Value) : ∀ x ∈ [(("self" : Str), u), (("fault" : Str), v)], (iScope ["fault"]).names.lookup x.1 = some .local := by
  intro x hx
  simp only [List.mem_cons, List.not_mem_nil, or_false] at hx
  rcases hx with rfl | rfl <;> rfl
theorem cell2 : ∀ x ∈ (iScope ["what", "limit"]).names, x.2 ≠ .cell := by decide
theorem loc2 (u v z : Value) : ∀ x ∈ [(("self" : Str), u), (("what" : Str), v), (("limit" : Str), z)], (iScope ["what", "limit"]).names.lookup x.1 = some .local := by
  intro x hx
  simp only [List.mem_cons, List.not_mem_nil, or_false] at hx
  rcases hx with rfl | rfl | rfl <;> rfl
def sStmt (es : List Expr) (p0 p1 p2 p3 p4 : Pos) : Stmt := .Expr (.Call (.Attribute (.Call (.Name "super" p0) [] [] p1) "__init__" p2) es [] p3) p4
def fStmt (n : Str) (q1 q2 q3 q4 : Pos) : Stmt := .Assign [.Attribute (.Name "self" q1) n q2] (.Name n q3) q4
theorem ldF {Q : Value → Shared → Prop} {M : Model} {env : Env} {y : Str} {pos : Pos} {v : Value} (F : Fr h₀ L s.heap m) (hv : m y = some v) (h : Q v s)
    (hL : env.locals = L) (hk : env.scope.kind = .function) (hl : env.kindOf y = some .local) (hd : (y == ("__debug__" : Str)) = false) : wpAny M A (eval (.Name y pos) env) Q E s := by
  subst hL
  exact wpAny_Name (wpAny_loadName_local hk hl F.ns hv h) hd
section
variable {R : Result → Shared → Prop} {h : Heap} {g : Array GenState} {d : Drawn} {t : Nat} {os : OsState} {fI : Addr}
variable {qual : Str} {doc pm ct : Value} {an : Option Addr} {fa : Str} {pS pA a0 a1 a2 a3 a4 a5 b1 b2 b3 b4 : Pos}
abbrev fd1 (qual fa : Str) (doc pm ct : Value) (an : Option Addr) (cda cc : Addr) (pS pA a0 a1 a2 a3 a4 a5 b1 b2 b3 b4 : Pos) : FuncData :=
  ksFn "__init__" qual (iArgs [("self", pS), (fa, pA)]) [sStmt [.Name fa a5] a0 a1 a2 a3 a4, fStmt fa b1 b2 b3 b4] (iScope [fa]) .none .none doc pm an (.ref cda) ct cc
/-- the call super().__init__(..) is what it looks like -/
def EvS (qual : Str) (ns : List Str) (fI cda cc : Addr) (es : List Expr) (p0 p1 p2 p3 : Pos) : Prop := ∀ L : Addr, ∃ pl : Sem Bool, eval (.Call (.Attribute (.Call (.Name "super" p0) [] [] p1) "__init__" p2) es [] p3) (ksEnv qual (iScope ns) L fI (.ref cda) cc) = (do
      let ov ← attributeBase (.Call (.Name "super" p0) [] [] p1) "__init__" (ksEnv qual (iScope ns) L fI (.ref cda) cc) (eval (.Call (.Name "super" p0) [] [] p1) (ksEnv qual (iScope ns) L fI (.ref cda) cc))
      standAt p2.atName
      let (f, first) ← holding [ov] (getMethod ov "__init__" pl)
      callWith p3 f first (backTo p3 (starEach es (ksEnv qual (iScope ns) L fI (.ref cda) cc))) [])
theorem made1 (T : IniTxt K mg prog C fI cda cc (fd1 qual fa doc pm ct an cda cc pS pA a0 a1 a2 a3 a4 a5 b1 b2 b3 b4)) (hfa : fa = "fault") {v : Value} (X : K.In h) (G : Gs mg h) (hlim : h.NoLimit) (hno : findIn K (.ref C) fa = some none) (hroom : A.depth + 1 < recursionLimit) (hev : EvS qual [fa] fI cda cc [.Name fa a5] a0 a1 a2 a3)
    (hq : ∀ h' tk e d', Made h h' e C d' (fun y => if y = fa then some v else none) → R (.ok (.ret (.ref e))) ⟨h', g, d, tk, os⟩) :
    codeAny (model prog w) A (.call (.ref C) ⟨[v], []⟩) R ⟨h, g, d, t, os⟩ := by
  subst hfa
  obtain ⟨nm, qq, NN, bs, bm, sn, sub, ab, col, dd, k0, k1, k2, k3, k5, hC, hbm⟩ := T.cls
  have hcl := clsIn_exc hC
  obtain ⟨oc, od, osl, hf⟩ := T.fn
  have k : ∀ b o, h.get? b = some o → ((h.push (kdv_tup [v])).push (excO C h.objs.size)).get? b = some o := fun b o e => Heap.get?_push_of_some _ (Heap.get?_push_of_some _ e)
  have hget : ((h.push (kdv_tup [v])).push (excO C h.objs.size)).get? (h.objs.size + 1) = some (excO C h.objs.size) := by heap_get
  have hone : [v].length ≤ sizeLine := by rw [sizeLine_eq]; exact (by decide : 1 ≤ 16777216)
  refine HandSPX.call_own _root_.PySem.F.excBase_ValueError (fun X => refsVE_contains X bm hbm) (X _ _ hC) (looks_findIn X T.iC) (fun self => bind_fn X self T.tI) hone ?_
  refine ks_codeAny_call_defAt (fd := fd1 qual "fault" doc pm ct an cda cc pS pA a0 a1 a2 a3 a4 a5 b1 b2 b3 b4) (binds := [("self", .ref (h.objs.size + 1)), ("fault", v)]) hroom ((X.keeps k) _ _ hf) rfl (hlim.keeps k) (codeRec_of (X.keeps k) T.cin) rfl
    (BindsTo.of_eq (by first | rfl | with_unfolding_all rfl)) cell1 (loc1 _ _) (fun h₁ hns hk₁ => ?_)
  have hx₁ : h₁.get? (h.objs.size + 1) = some (excObj C h.objs.size none .none) := hk₁ _ _ hget
  have hsz : ((h.push (kdv_tup [v])).push (excO C h.objs.size)).objs.size = h.objs.size + 2 := by rw [Heap.size_push, Heap.size_push]
  have F₁ : Fr h ((h.push (kdv_tup [v])).push (excO C h.objs.size)).objs.size h₁ (fun x => [(("self" : Str), Value.ref (h.objs.size + 1)), (("fault" : Str), v)].reverse.lookup x) := ⟨hns, fun b o e => hk₁ b o (k b o e), by rw [hsz]; omega⟩
  have hnone : h.get? (h.objs.size + 1) = none := by
    cases e : h.get? (h.objs.size + 1) with
    | none => rfl
    | some o => exact absurd (Nat.lt_of_succ_lt (Heap.lt_size e)) (Nat.lt_irrefl _)
  have N₁ : News h ((h.push (kdv_tup [v])).push (excO C h.objs.size)).objs.size h₁ [(h.objs.size + 1, excObj C h.objs.size none .none)] := fun p hp => by
    simp only [List.mem_cons, List.not_mem_nil, or_false] at hp
    subst hp
    exact ⟨hx₁, by rw [hsz]; show h.objs.size + 1 ≠ h.objs.size + 2; omega, hnone⟩
  have ld : ∀ {M : Model} {A : Around} {E : Value → Shared → Prop} {s : Shared} {Q : Value → Shared → Prop} {pos : Pos} {L : Addr} {u : Value} {y : Str}, Fr h L s.heap (fun x => [(("self" : Str), Value.ref (h.objs.size + 1)), (("fault" : Str), v)].reverse.lookup x) → [(("self" : Str), Value.ref (h.objs.size + 1)), (("fault" : Str), v)].reverse.lookup y = some u → (iScope ["fault"]).names.lookup y = some .local → (y == ("__debug__" : Str)) = false → Q u s →
      wpAny M A (eval (.Name y pos) (ksEnv qual (iScope ["fault"]) L fI (.ref cda) cc)) Q E s := fun F hv hl hd hq => ldF F hv hq rfl rfl hl hd
  obtain ⟨pl, hev⟩ := hev ((h.push (kdv_tup [v])).push (excO C h.objs.size)).objs.size
  refine super_stmt (s := ⟨h₁, g, d, _, os⟩) (us := [v]) (pl := pl) T F₁ X N₁ G rfl rfl rfl rfl rfl rfl hone (fun s' Q E F2 hq2 => ?_) (by rfl) (by rfl) (fun t' h' tk F2 hx2 => ?_) (by rfl) hev
  · show wpAny _ _ (spliced ((false, eval (.Name "fault" a5) _) :: backTo a3 (starEach [] _))) _ _ _
    refine Calls.spliced_cons (ld (u := v) F2 rfl rfl (by decide) ?_)
    exact Calls.spliced_nil hq2
  · have hxh : ∀ b o, h.get? b = some o → b ≠ h.objs.size + 1 := fun b o e z => by subst z; exact absurd (Nat.lt_of_succ_lt (Heap.lt_size e)) (Nat.lt_irrefl _)
    refine wpAt_of_wpAny (wpAny_execs_cons (plainObj_wpAny_Assign_Attribute ?_ ?_))
    · refine ld F2 (u := v) rfl rfl (by decide) ?_
      refine ld F2 (u := .ref (h.objs.size + 1)) rfl rfl (by decide) ?_
      have X2 : K.In h' := X.keeps F2.keep
      refine set_plain X2 (ox := excObj C t' none .none) (od := none) ⟨hx2, rfl, rfl, trivial⟩ T.sa ?_
      refine HandSPX.exc_osa X2 hx2 hcl (show refsVE (.ref C :: bm) = true from hbm) rfl hno (fun h₃ tk₃ dx k₃ dn dne hx₃ hn₃ => ?_)
      show wpAny _ _ (execs [] _) _ _ _
      have z2 : h.objs.size + 1 < h'.objs.size := Heap.lt_size hx2
      exact wpAny_execs_nil ⟨rfl, hq h₃ tk₃ (h.objs.size + 1) dx ⟨fun b o e => k₃ b o (hxh b o e) (F2.keep b o e), Nat.le_succ _, ⟨_, _, hx₃, rfl, rfl, rfl, rfl⟩, Nat.le_trans (Nat.le_of_lt (Nat.lt_of_succ_lt z2)) dn, dne, hn₃⟩⟩
    · rfl
variable {pB a6 c1 c2 c3 c4 : Pos}
abbrev fd2 (qual : Str) (doc pm ct : Value) (an : Option Addr) (cda cc : Addr) (pS pA pB a0 a1 a2 a3 a4 a5 a6 b1 b2 b3 b4 c1 c2 c3 c4 : Pos) : FuncData :=
  ksFn "__init__" qual (iArgs [("self", pS), ("what", pA), ("limit", pB)]) [sStmt [.Name "what" a5, .Name "limit" a6] a0 a1 a2 a3 a4, fStmt "what" b1 b2 b3 b4, fStmt "limit" c1 c2 c3 c4] (iScope ["what", "limit"]) .none .none doc pm an (.ref cda) ct cc
theorem made2 (T : IniTxt K mg prog C fI cda cc (fd2 qual doc pm ct an cda cc pS pA pB a0 a1 a2 a3 a4 a5 a6 b1 b2 b3 b4 c1 c2 c3 c4)) {v z : Value} (X : K.In h) (G : Gs mg h) (hlim : h.NoLimit) (hno : findIn K (.ref C) "what" = some none) (hno2 : findIn K (.ref C) "limit" = some none) (hroom : A.depth + 1 < recursionLimit) (hev : EvS qual ["what", "limit"] fI cda cc [.Name "what" a5, .Name "limit" a6] a0 a1 a2 a3)
    (hq : ∀ h' tk e d', Made h h' e C d' (fun y => if y = "limit" then some z else if y = "what" then some v else none) → R (.ok (.ret (.ref e))) ⟨h', g, d, tk, os⟩) :
    codeAny (model prog w) A (.call (.ref C) ⟨[v, z], []⟩) R ⟨h, g, d, t, os⟩ := by
  obtain ⟨nm, qq, NN, bs, bm, sn, sub, ab, col, dd, k0, k1, k2, k3, k5, hC, hbm⟩ := T.cls
  have hcl := clsIn_exc hC
  obtain ⟨oc, od, osl, hf⟩ := T.fn
  have k : ∀ b o, h.get? b = some o → ((h.push (kdv_tup [v, z])).push (excO C h.objs.size)).get? b = some o := fun b o e => Heap.get?_push_of_some _ (Heap.get?_push_of_some _ e)
  have hget : ((h.push (kdv_tup [v, z])).push (excO C h.objs.size)).get? (h.objs.size + 1) = some (excO C h.objs.size) := by heap_get
  have hone : [v, z].length ≤ sizeLine := by rw [sizeLine_eq]; exact (by decide : 2 ≤ 16777216)
  refine HandSPX.call_own _root_.PySem.F.excBase_ValueError (fun X => refsVE_contains X bm hbm) (X _ _ hC) (looks_findIn X T.iC) (fun self => bind_fn X self T.tI) hone ?_
  refine ks_codeAny_call_defAt (fd := fd2 qual doc pm ct an cda cc pS pA pB a0 a1 a2 a3 a4 a5 a6 b1 b2 b3 b4 c1 c2 c3 c4) (binds := [("self", .ref (h.objs.size + 1)), ("what", v), ("limit", z)]) hroom ((X.keeps k) _ _ hf) rfl (hlim.keeps k) (codeRec_of (X.keeps k) T.cin) rfl
    (BindsTo.of_eq (by first | rfl | with_unfolding_all rfl)) cell2 (loc2 _ _ _) (fun h₁ hns hk₁ => ?_)
  have hx₁ : h₁.get? (h.objs.size + 1) = some (excObj C h.objs.size none .none) := hk₁ _ _ hget
  have hsz : ((h.push (kdv_tup [v, z])).push (excO C h.objs.size)).objs.size = h.objs.size + 2 := by rw [Heap.size_push, Heap.size_push]
  have F₁ : Fr h ((h.push (kdv_tup [v, z])).push (excO C h.objs.size)).objs.size h₁ (fun x => [(("self" : Str), Value.ref (h.objs.size + 1)), (("what" : Str), v), (("limit" : Str), z)].reverse.lookup x) := ⟨hns, fun b o e => hk₁ b o (k b o e), by rw [hsz]; omega⟩
  have hnone : h.get? (h.objs.size + 1) = none := by
    cases e : h.get? (h.objs.size + 1) with
    | none => rfl
    | some o => exact absurd (Nat.lt_of_succ_lt (Heap.lt_size e)) (Nat.lt_irrefl _)
  have N₁ : News h ((h.push (kdv_tup [v, z])).push (excO C h.objs.size)).objs.size h₁ [(h.objs.size + 1, excObj C h.objs.size none .none)] := fun p hp => by
    simp only [List.mem_cons, List.not_mem_nil, or_false] at hp
    subst hp
    exact ⟨hx₁, by rw [hsz]; show h.objs.size + 1 ≠ h.objs.size + 2; omega, hnone⟩
  have ld : ∀ {M : Model} {A : Around} {E : Value → Shared → Prop} {s : Shared} {Q : Value → Shared → Prop} {pos : Pos} {L : Addr} {u : Value} {y : Str}, Fr h L s.heap (fun x => [(("self" : Str), Value.ref (h.objs.size + 1)), (("what" : Str), v), (("limit" : Str), z)].reverse.lookup x) → [(("self" : Str), Value.ref (h.objs.size + 1)), (("what" : Str), v), (("limit" : Str), z)].reverse.lookup y = some u → (iScope ["what", "limit"]).names.lookup y = some .local → (y == ("__debug__" : Str)) = false → Q u s →
      wpAny M A (eval (.Name y pos) (ksEnv qual (iScope ["what", "limit"]) L fI (.ref cda) cc)) Q E s := fun F hv hl hd hq => ldF F hv hq rfl rfl hl hd
  obtain ⟨pl, hev⟩ := hev ((h.push (kdv_tup [v, z])).push (excO C h.objs.size)).objs.size
  refine super_stmt (s := ⟨h₁, g, d, _, os⟩) (us := [v, z]) (pl := pl) T F₁ X N₁ G rfl rfl rfl rfl rfl rfl hone (fun s' Q E F2 hq2 => ?_) (by rfl) (by rfl) (fun t' h' tk F2 hx2 => ?_) (by rfl) hev
  · show wpAny _ _ (spliced ((false, eval (.Name "what" a5) _) :: backTo a3 (starEach [.Name "limit" a6] _))) _ _ _
    refine Calls.spliced_cons (ld (u := v) F2 rfl rfl (by decide) ?_)
    refine Calls.spliced_cons (ld (u := z) F2 rfl rfl (by decide) ?_)
    exact Calls.spliced_nil hq2
  · have hxh : ∀ b o, h.get? b = some o → b ≠ h.objs.size + 1 := fun b o e z => by subst z; exact absurd (Nat.lt_of_succ_lt (Heap.lt_size e)) (Nat.lt_irrefl _)
    refine wpAt_of_wpAny (wpAny_execs_cons (plainObj_wpAny_Assign_Attribute ?_ ?_))
    · refine ld F2 (u := v) rfl rfl (by decide) ?_
      refine ld F2 (u := .ref (h.objs.size + 1)) rfl rfl (by decide) ?_
      have X2 : K.In h' := X.keeps F2.keep
      refine set_plain X2 (ox := excObj C t' none .none) (od := none) ⟨hx2, rfl, rfl, trivial⟩ T.sa ?_
      refine HandSPX.exc_osa X2 hx2 hcl (show refsVE (.ref C :: bm) = true from hbm) rfl hno (fun h₃ tk₃ dx k₃ dn dne hx₃ hn₃ => ?_)
      have z2 : h.objs.size + 1 < h'.objs.size := Heap.lt_size hx2
      have bd : h.objs.size ≤ dx := Nat.le_trans (Nat.le_of_lt (Nat.lt_of_succ_lt z2)) dn
      have k4 : ∀ b o, h.get? b = some o → h₃.get? b = some o := fun b o e => k₃ b o (hxh b o e) (F2.keep b o e)
      have F3 : Fr h ((h.push (kdv_tup [v, z])).push (excO C h.objs.size)).objs.size h₃ (fun x => [(("self" : Str), Value.ref (h.objs.size + 1)), (("what" : Str), v), (("limit" : Str), z)].reverse.lookup x) := by
        obtain ⟨oL, es, ep, hL, r⟩ := F2.ns
        refine ⟨⟨oL, es, ep, k₃ _ _ (fun e => ?_) hL, r⟩, k4, F2.above⟩
        rw [hsz] at e
        exact absurd e (Nat.succ_ne_self _)
      show wpAny _ _ (execs [_] _) _ _ _
      refine wpAny_execs_cons (plainObj_wpAny_Assign_Attribute ?_ ?_)
      · refine ld (s := ⟨h₃, _, _, _, _⟩) F3 (u := z) rfl rfl (by decide) ?_
        refine ld (s := ⟨h₃, _, _, _, _⟩) F3 (u := .ref (h.objs.size + 1)) rfl rfl (by decide) ?_
        have X3 : K.In h₃ := X.keeps k4
        have hnD := hn₃
        obtain ⟨oD, esD, epD, hoD, _⟩ := hnD
        refine set_plain X3 (od := some oD) ⟨hx₃, rfl, rfl, hoD⟩ T.sa ?_
        refine OEX.osa_old (nl := ["what"]) X3 hx₃ hn₃ (fun y hy => ?_) (by show 1 ≤ 1000; decide) hcl (show refsVE (.ref C :: bm) = true from hbm) rfl hno2 (fun h₄ tk₄ k5 hn₄ => ?_)
        · by_cases e : y = "what"
          · rw [e]; simp
          · exact absurd (if_neg e) hy
        · show wpAny _ _ (execs [] _) _ _ _
          have hd5 : ∀ b o, h.get? b = some o → b ≠ dx := fun b o e z => by subst z; exact absurd (Nat.lt_of_lt_of_le (Heap.lt_size e) bd) (Nat.lt_irrefl _)
          exact wpAny_execs_nil ⟨rfl, hq h₄ tk₄ (h.objs.size + 1) dx ⟨fun b o e => k5 b o (hd5 b o e) (k4 b o e), Nat.le_succ _, ⟨_, _, k5 _ _ dne.symm hx₃, rfl, rfl, rfl, rfl⟩, bd, dne, hn₄⟩⟩
      · rfl
    · rfl
end
end
end AXI
end PySem

set_option Elab.async false
set_option linter.all false
set_option maxRecDepth 100000
set_option maxHeartbeats 4000000
namespace AX
open PySem PySem.Spec PyProof.Rows L2
theorem gs_of {X : Cx} {pins : List (Addr × Obj)} {σ : L2.St} {H : Hp} {s : Shared} (I : Inv X pins σ H s) : PySem.AXI.Gs X.mg s.heap := by
  obtain ⟨mb, h1, h2⟩ := I.mod.blt
  exact ⟨I.mod.glob.keeps I.bk, mb, h1.keeps I.bk, h2⟩
/-- what was made stands for an exception with these fields -/
theorem mkp_of {X : Cx} {pins : List (Addr × Obj)} {σ : L2.St} {H1 : Hp} {Q : XK} {hp h' : Heap} {g : Array GenState} {dr : Drawn} {tk tk' : Nat} {os : OsState} {C e d : Addr} {fs : List (Str × V)} {mA : Str → Option Value} (I1 : Inv X pins σ H1 ⟨hp, g, dr, tk, os⟩)
    (M : PySem.AXI.Made hp h' e C d mA) (rel : ∀ f, RelO (fs.lookup f) (mA f)) (exC : PySem.W.subIn X.K (.ref C) (.type "BaseException") = some true) (tyC : PySem.W.typeIn X.K (.ref C) = some (.type "type")) (q : Q (.ref C) (some d) (upd H1 d (.xd fs))) :
    MkP X pins σ Q (.ref e) ⟨h', g, dr, tk', os⟩ := by
  obtain ⟨oe, fv, hoe, hc, hd, hdat, h1⟩ := M.obj
  have hns := M.ns
  obtain ⟨G', g1, g2⟩ := restrict h' fun b => decide (b ≠ e)
  have gk : ∀ b, b ≠ e → G'.get? b = h'.get? b := fun b hb => g1 b (decide_eq_true hb)
  have ge : G'.get? e = none := g2 e (by simp)
  have old : ∀ b o, hp.get? b = some o → G'.get? b = some o := fun b o q => (gk b (Nat.ne_of_lt (Nat.lt_of_lt_of_le (Heap.lt_size q) M.new))).trans (M.keep b o q)
  have ob : ObjOk X.prog X.w (upd H1 d (.xd fs)) G' d (.xd fs) := ⟨_, hns.at (fun o q => (gk d M.dne).trans q), rel⟩
  have J : Inv X pins σ (upd H1 d (.xd fs)) ⟨G', g, dr, tk', os⟩ := I1.laid (t' := tk') old M.dbig ob
  refine ⟨e, oe, fv, ⟨G', g, dr, tk', os⟩, _, .ref C, some d, rfl, J, fun b o q => ?_, ge, hoe, ⟨hc, hd⟩, hdat, h1, ?_, rfl, I1.bare, raises_own exC tyC, q⟩
  · by_cases hb : b = e
    · have q' : G'.get? b = some o := q
      rw [hb, ge] at q'; cases q'
    · exact (gk b hb).symm.trans q
  · rw [upd_ne (Ne.symm M.dne)]
    exact I1.hok.fresh M.new
theorem relO1 {v : V} {v' : Value} (r : RelV v v') (f : Str) : RelO (List.lookup f [(("fault" : Str), v)]) (if f = "fault" then some v' else none) := by
  by_cases h : f = "fault"
  · subst h; rw [if_pos rfl]
    have q : List.lookup ("fault" : Str) [(("fault" : Str), v)] = some v := by simp [List.lookup]
    rw [q]; exact r
  · rw [if_neg h]
    have qw : (f == ("fault" : Str)) = false := by simpa using h
    have q2 : List.lookup f [(("fault" : Str), v)] = none := by simp [List.lookup, qw]
    rw [q2]; trivial
theorem relO2 {v u : V} {v' u' : Value} (r : RelV v v') (r2 : RelV u u') (f : Str) : RelO (List.lookup f [(("what" : Str), v), (("limit" : Str), u)]) (if f = "limit" then some u' else if f = "what" then some v' else none) := by
  by_cases h : f = "what"
  · subst h
    have n : ¬ ("what" : Str) = "limit" := by decide
    rw [if_neg n, if_pos rfl]
    have q : List.lookup ("what" : Str) [(("what" : Str), v), (("limit" : Str), u)] = some v := by simp [List.lookup]
    rw [q]; exact r
  · have qw : (f == ("what" : Str)) = false := by simpa using h
    by_cases h2 : f = "limit"
    · subst h2; rw [if_pos rfl]
      have q : List.lookup ("limit" : Str) [(("what" : Str), v), (("limit" : Str), u)] = some u := by
        have : (("limit" : Str) == ("what" : Str)) = false := by decide
        simp [List.lookup, this]
      rw [q]; exact r2
    · rw [if_neg h2, if_neg h]
      have ql : (f == ("limit" : Str)) = false := by simpa using h2
      have q2 : List.lookup f [(("what" : Str), v), (("limit" : Str), u)] = none := by simp [List.lookup, qw, ql]
      rw [q2]; trivial
theorem vals1 {vs : List V} {us : List Value} (r : Vals vs us) (h : vs.length = 1) : ∃ v v', vs = [v] ∧ us = [v'] ∧ RelV v v' := by
  cases r with
  | nil => simp at h
  | cons rv rn =>
    cases rn with
    | nil => exact ⟨_, _, rfl, rfl, rv⟩
    | cons _ _ => simp at h
theorem vals2 {vs : List V} {us : List Value} (r : Vals vs us) (h : vs.length = 2) : ∃ v v' u u', vs = [v, u] ∧ us = [v', u'] ∧ RelV v v' ∧ RelV u u' := by
  cases r with
  | nil => simp at h
  | cons rv rn =>
    obtain ⟨u, u', rfl, rfl, ru⟩ := vals1 rn (by simpa using h)
    exact ⟨_, _, _, _, rfl, rfl, rv, ru⟩
section
variable {P : Program} {w : World} {K : PySem.W.Frag} {mg : Str → Option Value} {base : Heap} {x : Str} {C fI cda cc : Addr} {qual : Str} {doc pm ct : Value} {an : Option Addr} {pS pA pB a0 a1 a2 a3 a4 a5 a6 b1 b2 b3 b4 c1 c2 c3 c4 : Pos}
theorem exI1 (g : mg x = some (.ref C)) (T : PySem.AXI.IniTxt K mg P C fI cda cc (PySem.AXI.fd1 qual "fault" doc pm ct an cda cc pS pA a0 a1 a2 a3 a4 a5 b1 b2 b3 b4)) (hno : PySem.W.findIn K (.ref C) "fault" = some none) (hev : PySem.AXI.EvS qual ["fault"] fI cda cc [.Name "fault" a5] a0 a1 a2 a3)
    (hdb : (x == ("__debug__" : Str)) = false) : ExI P w K mg base x C ["fault"] := by
  refine ⟨g, fun X k e es ta p pos eP ew eK em eb hr hg ha he hpl => ?_⟩
  subst eP ew eK em eb
  intro pins s σ H Q I h
  refine wpAny_Call_Name_kw (ld_glob I hg g ?_ hdb)
  refine PySem.W.callWith_K (h₀ := X.base) I.ok.mod.kin T.kC (thn (ha.run pos pins s σ H _ I h) fun us s1 ⟨vs, H1, I1, r1, hl, q1⟩ => ⟨I1.kIn, ?_⟩) he hpl
  obtain ⟨v, v', rfl, rfl, rv⟩ := vals1 r1 hl
  have G := gs_of I1
  have hlim := I1.nolimit
  have XX := I1.kIn
  obtain ⟨hp, gg, dr, tk, os⟩ := s1
  have hdp := hr.dp
  show wpAny _ _ (call (.ref C) [v']) _ _ _
  refine wpAny_call (PySem.AXI.made1 T rfl XX G hlim hno (by omega) hev fun h' tk' e d M => ?_)
  exact mkp_of (fs := [(("fault" : Str), v)]) I1 M (relO1 rv) T.exC T.tyC (q1 d (I1.hok.fresh M.dbig))
theorem exI2 (g : mg x = some (.ref C)) (T : PySem.AXI.IniTxt K mg P C fI cda cc (PySem.AXI.fd2 qual doc pm ct an cda cc pS pA pB a0 a1 a2 a3 a4 a5 a6 b1 b2 b3 b4 c1 c2 c3 c4)) (hno : PySem.W.findIn K (.ref C) "what" = some none) (hno2 : PySem.W.findIn K (.ref C) "limit" = some none)
    (hev : PySem.AXI.EvS qual ["what", "limit"] fI cda cc [.Name "what" a5, .Name "limit" a6] a0 a1 a2 a3) (hdb : (x == ("__debug__" : Str)) = false) : ExI P w K mg base x C ["what", "limit"] := by
  refine ⟨g, fun X k e es ta p pos eP ew eK em eb hr hg ha he hpl => ?_⟩
  subst eP ew eK em eb
  intro pins s σ H Q I h
  refine wpAny_Call_Name_kw (ld_glob I hg g ?_ hdb)
  refine PySem.W.callWith_K (h₀ := X.base) I.ok.mod.kin T.kC (thn (ha.run pos pins s σ H _ I h) fun us s1 ⟨vs, H1, I1, r1, hl, q1⟩ => ⟨I1.kIn, ?_⟩) he hpl
  obtain ⟨v, v', u, u', rfl, rfl, rv, ru⟩ := vals2 r1 hl
  have G := gs_of I1
  have hlim := I1.nolimit
  have XX := I1.kIn
  obtain ⟨hp, gg, dr, tk, os⟩ := s1
  have hdp := hr.dp
  show wpAny _ _ (call (.ref C) [v', u']) _ _ _
  refine wpAny_call (PySem.AXI.made2 T XX G hlim hno hno2 (by omega) hev fun h' tk' e d M => ?_)
  exact mkp_of (fs := [(("what" : Str), v), (("limit" : Str), u)]) I1 M (relO2 rv ru) T.exC T.tyC (q1 d (I1.hok.fresh M.dbig))
end
end AX

set_option Elab.async false
set_option linter.all false
set_option maxRecDepth 100000
set_option maxHeartbeats 4000000
namespace AX
open PySem PySem.Spec PyProof.Rows L2
/-! several clauses 'except x as n' -/
def unN (i : Nat) (D : Ends) : Ends := { nx := fun σ' H' => D.nx (σ'.set i none) H', rt := D.rt, bk := fun σ' H' => D.bk (σ'.set i none) H', ct := fun σ' H' => D.ct (σ'.set i none) H' }
def wAsMany (K : PySem.W.Frag) (Wout : WX) (D : Ends) (i : Nat) : List (Value × (Addr → Value → Option Addr → TS)) → WX
  | [] => Wout
  | (c, ts) :: r => fun cls d σ H => ∃ b, PySem.W.exmOne K cls c = some b ∧ (b = true → ∀ a, H a = none → ts a cls d (unN i D) (σ.set i (some (.ref a))) H) ∧ (b = false → wAsMany K Wout D i r cls d σ H)
inductive HdsAs (X : Cx) (n : Str) : List ExceptHandler → List (Value × (Addr → Value → Option Addr → TS)) → Prop
  | nil : HdsAs X n [] []
  | cons {x : Str} {c : Value} {ts : Addr → Value → Option Addr → TS} {b₀ : Stmt} {suite : List Stmt} {np pos' : Pos} {hds : List ExceptHandler} {l : List (Value × (Addr → Value → Option Addr → TS))} (hc : Names X x c)
      (hsu : ∀ (a : Addr) (oe : Obj) (cls : Value) (d : Option Addr) (pn : List (Addr × Obj)), Zc cls d oe → (∃ vs, oe.data = .fields vs) → PSs (X.suite a ((a, oe) :: pn)) (b₀ :: suite) (ts a cls d)) (r : HdsAs X n hds l) :
      HdsAs X n (.ExceptHandler (some (.Name x np)) (some n) (b₀ :: suite) pos' :: hds) ((c, ts) :: l)
section
variable {X : Cx} {n : Str} {i : Nat} {body : List Stmt} {h₀ : ExceptHandler} {hds : List ExceptHandler} {l : List (Value × (Addr → Value → Option Addr → TS))} {pos : Pos} {tb : WX → TS} {Wout : WX}
theorem ps_try_asMany (hs : X.stack = X.env :: X.outer) (hf : X.env.frame = some X.env.locals) (hN : X.N.Nodup) (hi : X.N[i]? = some n) (hln : X.env.kindOf n = some .local) (tk : Takes X Wout)
    (hb : ∀ (W : WX) (pn : List (Addr × Obj)) (xe : Value → Shared → Prop), Takes (X.tr pn xe) W → PassesOwn (model X.prog X.w) X.A X.env xe → PSs (X.tr pn xe) body (tb W))
    (hh : HdsAs X n (h₀ :: hds) l) : PS X (.Try body (h₀ :: hds) [] [] pos) (fun D σ H => tb (wAsMany X.K Wout D i l) D σ H) := by
  refine ⟨fun pins s σ H D I h => ?_⟩
  have ok := I.ok
  have hfr : X.A.frames = some (X.env :: X.outer) := by rw [ok.frames, hs]
  have hloc : Loc X.env.scope n := .inl hln
  refine wpAny_Try_except ?_
  refine wpAny_mono ((hb (wAsMany X.K Wout D i l) (X.pn ++ pins) (fun e s₁ => wpAny (model X.prog X.w) X.A (noteFrame e X.env) (fun _ s₂ => wpAny (model X.prog X.w) X.A (setFlight e none) (fun _ s₃ =>
    wpAny (model X.prog X.w) X.A (handleBy e X.env (h₀ :: hds)) (SP X pins D) X.xe s₃) X.xe s₂) X.xe s₁) (fun u s' xx => ?_) PassesOwn.looking).run [] s σ H D (I.toTry _) h) (fun f s1 hsp => ?_) (fun e s1 he => he)
  · obtain ⟨a, B, sI, pins', σ', H', cls, d, rfl, J', nb, up, sky, na, os, ag, w⟩ := xx
    have J : Inv X pins σ' H' sI := J'.ofTry ok
    have sky' : Sky B (X.env :: X.outer) a (Zc cls d) X.env.locals s'.heap := by rw [← hs]; exact sky
    show wpAny (model X.prog X.w) X.A (noteFrame (.ref a) X.env) _ _ _
    refine Sky.land Zc.steady hfr hf sky' fun h3 fl3 up3 => ?_
    have J3 : Inv X pins σ' H' { s' with heap := h3 } := J.landed nb fl3.1 (up.trans up3) os ag
    obtain ⟨oe3, vs3, he3, hz3, hd3⟩ := fl3.there
    have nfr : a ∉ frs (X.env :: X.outer) := fun hm => by
      obtain ⟨_, o', e', hnf⟩ := fl3.2.2.1.mem hm
      rw [he3] at e'; cases e'
      exact hnf _ hd3
    have nL : a ≠ X.env.locals := fun z => nfr (List.mem_filterMap.mpr ⟨X.env, List.mem_cons_self, by rw [hf, z]⟩)
    have nF : a ∉ X.fs := fun hm => by
      obtain ⟨e, he, q⟩ := List.mem_filterMap.mp hm
      exact nfr (List.mem_filterMap.mpr ⟨e, List.mem_cons_of_mem _ he, q⟩)
    have S3 := J3.suite he3 hd3 na nL nF
    have go : ∀ {hds' : List ExceptHandler} {l' : List (Value × (Addr → Value → Option Addr → TS))}, HdsAs X n hds' l' → wAsMany X.K Wout D i l' cls d σ' H' →
        wpAny (model X.prog X.w) X.A (handleBy (.ref a) X.env hds') (SP X pins D) X.xe { s' with heap := h3 } := by
      intro hds' l' hk
      induction hk with
      | nil =>
        intro w
        refine wpAny_handleBy_nil ?_
        obtain ⟨k1, k2, k3, oe, vs, T, oT, ts', he, hz, hd, h1, hr⟩ := id fl3
        unfold PySem.passOn
        refine wpAny_bind (wpAny_field he hd h1 ?_)
        rw [if_neg (show ¬ ((Value.ref T == Value.none) = true) from by simp)]
        have fin : wpAny (model X.prog X.w) X.A (setFlight (.ref a) X.env.frame) (fun _ s4 => wpAny (model X.prog X.w) X.A (throw (.ref a) : Sem Flow) (SP X pins D) X.xe s4) X.xe { s' with heap := h3 } := by
          rw [hf]
          refine HandSPX.setFlight_upZ fl3 fun h4 hh4 up4 => wpAny_throw (tk _ _ ?_)
          exact ⟨a, B, sI, pins, σ', H', cls, d, rfl, J, nb, (up.trans up3).trans up4, .inr (.inr (by rw [hs]; exact hh4)), na, os, ag, w⟩
        first
          | exact wpAny_bind (wpAny_pure (wpAny_bind fin))
          | exact wpAny_bind fin
      | @cons x c ts b₀ suite np pos' hds2 l2 hc hsu r ih =>
        intro w
        obtain ⟨b, hb1, hyes, hno⟩ := w
        refine wpAny_handleBy_cons (codeAny_handlers_test ?_) (by intro q; cases q)
        have LT : PySem.W.Looks (model X.prog X.w) h3 (typeOf (.ref a)) cls := fun A Q E s k q => wpAny_typeOf_ref (k _ _ he3) (by rw [hz3.1]; exact q)
        have LM := PySem.W.exm_one (M := model X.prog X.w) (J3.kIn) LT hb1
        have test : ∀ {Q : Value → Shared → Prop} {E : Value → Shared → Prop}, Q c { s' with heap := h3 } → wpAny (model X.prog X.w) (X.A.mark (some (.ref a))) (eval (.Name x np) X.env) Q E { s' with heap := h3 } := fun {Q E} q => by
          obtain ⟨hg, hdbg, hm | ⟨hm, hv, hnn⟩⟩ := hc
          · exact ld_glob (X := X.suite a ((a, oe3) :: (X.pn ++ pins))) S3 hg hm q hdbg
          · exact ld_blt (X := X.suite a ((a, oe3) :: (X.pn ++ pins))) S3 hg hm hv q hnn hdbg
        refine test (LM.here ?_)
        cases b with
        | true =>
          refine codeAny_handlers_suite_as ?_
          refine HandSPX.lands_againZ fl3 fun h4 fl4 up4 => ?_
          have J4 : Inv X pins σ' H' { s' with heap := h4 } := J.landed nb fl4.1 ((up.trans up3).trans up4) os ag
          obtain ⟨oe4, vs4, he4, hz4, hd4⟩ := fl4.there
          have S4 := J4.suite he4 hd4 na nL nF
          refine store_ok (X := X.suite a ((a, oe4) :: (X.pn ++ pins))) (v := .ref a) S4 hN hi hloc rfl (fun s5 S5 => ?_) (.inr hln)
          refine wpAny_mono ((hsu a oe4 cls d (X.pn ++ pins) hz4 ⟨_, hd4⟩).run [] s5 _ H' _ S5 (hyes rfl a na)) (fun f s6 hsp => ?_) (fun _ _ z => False.elim z)
          have end_ : ∀ {σ6 : L2.St} {H6 : Hp} {Q : Shared → Prop}, Inv (X.suite a ((a, oe4) :: (X.pn ++ pins))) [] σ6 H6 s6 → (∀ s7, Inv X pins (σ6.set i none) H6 s7 → Q s7) →
              wpAny (model X.prog X.w) X.A (do bindName X.env n .none; unbindBehindTheSuite X.env n pos') (fun _ s7 => Q s7) X.xe s6 := fun {σ6 H6 Q} S6 hq => gone_ok (S6.unsuite ok) hN hi hln hq
          cases f with
          | next =>
            obtain ⟨σ6, H6, S6, q6⟩ := hsp
            exact end_ S6 fun s7 J7 => ⟨_, _, J7, q6⟩
          | brk =>
            obtain ⟨σ6, H6, S6, q6⟩ := hsp
            exact end_ S6 fun s7 J7 => ⟨_, _, J7, q6⟩
          | cont =>
            obtain ⟨σ6, H6, S6, q6⟩ := hsp
            exact end_ S6 fun s7 J7 => ⟨_, _, J7, q6⟩
          | ret u =>
            obtain ⟨v6, σ6, H6, S6, r6, q6⟩ := hsp
            exact end_ S6 fun s7 J7 => ⟨_, _, _, J7, r6, q6⟩
        | false =>
          show wpAny _ X.A (handleBy (.ref a) X.env hds2) _ _ _
          exact ih (hno rfl)
    exact go hh w
  · cases f with
    | next =>
      obtain ⟨σ', H', J', q⟩ := hsp
      exact wpAny_execs_nil ⟨σ', H', J'.ofTry ok, q⟩
    | brk =>
      obtain ⟨σ', H', J', q⟩ := hsp
      exact ⟨σ', H', J'.ofTry ok, q⟩
    | cont =>
      obtain ⟨σ', H', J', q⟩ := hsp
      exact ⟨σ', H', J'.ofTry ok, q⟩
    | ret u =>
      obtain ⟨v, σ', H', J', r, q⟩ := hsp
      exact ⟨v, σ', H', J'.ofTry ok, r, q⟩
end
end AX

set_option Elab.async false
set_option linter.all false
set_option maxRecDepth 100000
set_option maxHeartbeats 4000000
namespace AX
open PySem PySem.Spec PyProof.Rows L2
/-! ### statements with a try: their ends are told from the def's start on -/
def upS0 (X : Cx) (t : AS) : TS := fun D τ H => ∃ σ h E, RS X.K H σ τ ∧ RH X h H ∧ t E σ h ∧ EndOk X X.H_0 E D
abbrev SJ0 (X : Cx) (st : Stmt) (t : AS) : Prop := PS X st (upS0 X t)
abbrev BJ0 (X : Cx) (sts : List Stmt) (t : AS) : Prop := PSs X sts (upS0 X t)
section
variable {X : Cx} {a b c e : Expr} {es : List Expr} {ta tb tc : AE} {t u : AS} {tA : AT} {pos p : Pos} {st : Stmt} {rest : List Stmt} {tg : Expr} {g : AG} {vs us : List Nat}
theorem s0 (h : SJ X st t) : SJ0 X st t := h.imp fun D τ H e0 ⟨σ, h, E, hs, hh, q, k⟩ => ⟨σ, h, E, hs, hh, q, k.ext e0⟩
theorem b0 {sts : List Stmt} (h : BJ X sts t) : BJ0 X sts t := h.imp fun D τ H e0 ⟨σ, h, E, hs, hh, q, k⟩ => ⟨σ, h, E, hs, hh, q, k.ext e0⟩
theorem b_cons0 (h1 : SJ0 X st t) (h2 : BJ0 X rest u) : BJ0 X (st :: rest) (aSeq t u) := (pss_cons h1 h2).imp fun D τ H _ ⟨σ, h, E, hs, hh, q, k⟩ =>
  ⟨σ, h, { E with nx := u E }, hs, hh, q, ⟨fun σ' h' τ' H' e1 hs' hh' q' => ⟨σ', h', E, hs', hh', q', k⟩, k.rt, k.bk, k.ct⟩⟩
theorem b_one0 (h1 : SJ0 X st t) : BJ0 X [st] t := pss_one h1
theorem s_if0 {A B : List Stmt} (hc : TJ X c tA) (ha : BJ0 X A t) (hb : BJ0 X B u) : SJ0 X (.If c A B pos) (aIfS tA t u) := (ps_if hc ha hb).imp fun D τ H _ ⟨σ, h, E, hs, hh, q, k⟩ =>
  ⟨σ, h, _, hs, hh, q, fun b h1 H1 e1 hh1 q1 => by
    cases b with
    | true => exact iteT ⟨σ, h1, E, hs.mono e1, hh1, by simpa using q1, k⟩
    | false => exact iteF ⟨σ, h1, E, hs.mono e1, hh1, by simpa using q1, k⟩⟩
/-! ### for over a range -/
def upI0 (X : Cx) (l : Bool) (ti : AI) : TI := fun τ H R => ∃ σ h R', RS X.K H σ τ ∧ RH X h H ∧ ti σ h R' ∧ ∀ s h' H', HExt H H' → RH X h' H' → R' s h' → ∀ J, Good X X.H_0 l J s → R J H'
abbrev IJ0 (X : Cx) (l : Bool) (tg e : Expr) (ti : AI) : Prop := PI X tg e (upI0 X l ti)
theorem s_for0 {iter : Expr} {body : List Stmt} {ti : AI} {l : Bool} (hp : PassesOwn (model X.prog X.w) X.A X.env X.xe) (hc : X.calm = true) (hi : IJ0 X l tg iter ti) (hg : GJ X l tg vs g) (hb : BJ0 X body t)
    (hs : ∀ x, foldedSetIterable iter X.env x = pure x := by intro _; rfl) : SJ0 X (.For tg iter body [] pos) (aFor ti g t) := (ps_for hp hc hi hg hb hs).imp fun D τ H e0 ⟨σ, h, E, hs, hh, q, k⟩ => by
  refine ⟨σ, h, _, hs, hh, q, fun s h1 H1 e1 hh1 ⟨xs, ex, W, w0, step⟩ J good => ?_⟩
  refine ⟨fun i m τ' H' => ∃ σ' h', HExt X.H_0 H' ∧ RS X.K H' σ' τ' ∧ RH X h' H' ∧ W i σ' h' ∧ i + m = xs.length, ⟨xs.length, σ, h1, e0.trans e1, hs.mono e1, hh1, w0, by omega⟩, fun i m τ2 H2 ⟨σ2, h2, e2, hs2, hh2, w2, em⟩ => ?_⟩
  obtain ⟨es, st⟩ := step i σ2 h2 w2
  obtain ⟨gd1, gd2⟩ := good i h2 H2 xs e2 hh2 es
  cases q1 : xs[i]? with
  | none =>
    rw [q1] at st
    exact .inl ⟨gd1 q1, k.nx _ _ _ _ e2 hs2 hh2 st⟩
  | some d =>
    rw [q1] at st
    have hi := (List.getElem?_eq_some_iff.mp q1).1
    obtain ⟨go, yld⟩ := gd2 d q1
    refine .inr ⟨go, fun τ' H' => ∃ σ' h', HExt X.H_0 H' ∧ RS X.K H' σ' τ' ∧ RH X h' H' ∧ W (i + 1) σ' h', fun τ' H' ⟨σ', h', z1, z2, z3, z4⟩ => ⟨m - 1, by omega, σ', h', z1, z2, z3, z4, by omega⟩, fun v H3 hy => ?_⟩
    obtain ⟨x3, hh3, rd⟩ := yld v H3 hy
    refine ⟨d, σ2, h2, _, rd, hs2.mono x3, hh3, st, fun σ4 h4 τ4 H4 e4 hs4 hh4 _ q4 => ?_⟩
    have again : ∀ σ' h' τ' H', HExt X.H_0 H' → RS X.K H' σ' τ' → RH X h' H' → Fgt (W (i + 1)) σ' h' → ∃ σ' h', HExt X.H_0 H' ∧ RS X.K H' σ' τ' ∧ RH X h' H' ∧ W (i + 1) σ' h' := by
      rintro σ' h' τ' H' e5 hs5 hh5 ⟨σ0, h0, s1, s2, w⟩
      exact ⟨σ0, h0, e5, hs5.weak s1, RHp.weak hh5 s2, w⟩
    exact ⟨σ4, h4, _, hs4, hh4, q4, ⟨fun σ' h' τ' H' e5 => again σ' h' τ' H' e5, k.rt, k.nx, fun σ' h' τ' H' e5 => again σ' h' τ' H' e5⟩⟩
theorem i_range1_0 {t : AA} (hg : Gl X "range") (hm : X.mg "range" = none) (ha : AJ X [a] t) (hs : starEach [a] X.env = [(false, eval a X.env)] := by rfl) : IJ0 X false tg (.Call (.Name "range" p) [a] [] pos) (iRg1 t) :=
  PI.imp (pi_range1 hg hm ha hs) fun τ H R ⟨σ, h, R', hs, hh, q, k⟩ => ⟨σ, h, _, hs, hh, q, fun ds vs h1 H1 e1 rds hh1 q1 => by
    match ds, q1 with
    | [.int j], ⟨b1, b2, q1⟩ =>
      cases rds with
      | cons r1 r2 => cases r2; cases r1; exact ⟨j, rfl, b1, b2, k _ _ _ e1 hh1 q1 _ (good_range 0 _ _)⟩⟩
end
/-! ### exceptions that a try takes, with the slots -/
def upWX (X : Cx) (EA : ASt → AXK) : WX := fun cls d τ H' => ∃ C fs h' σ, cls = .ref C ∧ XF X.K H' h' d fs ∧ HExt X.H_0 H' ∧ RS X.K H' σ τ ∧ RH X h' H' ∧ EA σ C fs h'
abbrev XTkS (X : Cx) (EA : ASt → AXK) : Prop := Takes X (upWX X EA)
section
variable {X : Cx} {e a : Expr} {es : List Expr} {ta : AE} {t : AA} {pos p : Pos} {k : Nat} {f : Addr} {fd : FuncData} {ps : List Str} {sp : ASp} {x : Str} {EA : ASt → AXK}
/-- the callee runs; what it lets out is told at this state alone -/
theorem run_GS {gd : Prop} {sp : Sp} {E : XK} {pins : List (Addr × Obj)} {σ : L2.St} {H : Hp} {s : Shared} {Q : VK} {us : List Value} {vs : List V} (F : FnG gd X.prog X.w X.K X.mg X.base k f fd ps sp) (hr : Room k X.A) (hg : gd → X.A.guards = some []) (hb : Binds X.K fd ps []) (hx : ∀ e s', L2.CX X.prog X.w X.stack H s E e s' → X.xe e s')
    (I : Inv X pins σ H s) (r : Vals vs us) (h : sp vs H Q E) : wpAny (model X.prog X.w) X.A (call (.ref f) us) (EP X pins σ Q) X.xe s := by
  have hl : us.length = ps.length := by rw [← r.length]; exact F.len _ _ _ _ h
  have hb' := hb s us I.kIn (by rw [List.append_nil]; exact hl)
  rw [List.append_nil] at hb'
  refine wpAny_call (codeAny_mono (F.run X.A X.stack s H ⟨us, []⟩ us vs Q E hr hg I.env0 hb' r h) fun r s' hq => ?_)
  cases r with
  | error e => exact hx e s' hq
  | ok fl =>
    cases fl with
    | ret u => exact I.after hq
    | next => exact False.elim hq
    | brk => exact False.elim hq
    | cont => exact False.elim hq
/-- f(..) in a try -/
def aCallS (sp : ASp) (EA : ASt → AXK) (t : AA) : AE := fun σ h R => t σ h fun ds h1 => sp ds h1 R (EA σ)
theorem pass_S (tk : XTkS X EA) {pins : List (Addr × Obj)} {τ : L2.St} {H1 : Hp} {s1 : Shared} {σ : ASt} (I1 : Inv X pins τ H1 s1) (hs : RS X.K H1 σ τ) : ∀ e s', L2.CX X.prog X.w X.stack H1 s1 (upXK X.prog X.w X.K H1 (EA σ)) e s' → X.xe e s' :=
  fun e s' q => tk e s' (XE.of_call I1 (fun cls d H' ⟨C, fs, h', z1, z2, z3, z4, z5⟩ => ⟨C, fs, h', σ, z1, z2, (ext0 I1).trans z3, hs.mono z3, z4, z5⟩) q)
theorem e_calS {gd : Prop} {k' : Nat} (C : Cal gd X.prog X.w X.K X.mg X.base k x ps sp) (hr : Room k' X.A) (hG : gd → X.A.guards = some []) (hg : Gl X x) (tk : XTkS X EA)
    (ha : AJ X (e :: es) t) (hk : k ≤ k' := by decide) (hdb : (x == ("__debug__" : Str)) = false := by decide) (he : starEach (e :: es) X.env = (false, eval e X.env) :: starEach es X.env := by rfl) (hpl : (backTo pos (starEach es X.env)).any (·.1) = false := by rfl) :
    EJ X (.Call (.Name x p) (e :: es) [] pos) (aCallS sp EA t) := by
  obtain ⟨f, fd, F, hm, hkp, hb⟩ := C.ex
  refine ⟨fun pins s τ H Q I ⟨σ, h, R, hs, hh, q, c⟩ => ?_⟩
  refine wpAny_Call_Name_kw (ld_glob I hg hm ?_ hdb)
  refine PySem.W.callWith_K (h₀ := X.base) I.ok.mod.kin hkp (thn (ha.run pos pins s τ H (fun vs H1 => ∃ ds h1, HExt H H1 ∧ RDs X.K H1 ds vs ∧ RH X h1 H1 ∧ sp ds h1 R (EA σ)) I ⟨σ, h, _, hs, hh, q, fun ds vs h1 H1 e1 rds hh1 q1 => ⟨ds, h1, e1, rds, hh1, q1⟩⟩) fun us s1 ⟨vs, H1, I1, r, ds, h1, e1, rds, hh1, q1⟩ => ⟨I1.kIn, ?_⟩) he hpl
  exact run_GS F (hr.mono hk) hG hb (pass_S tk I1 (hs.mono e1)) I1 r ⟨ds, h1, R, EA σ, rds, hh1, q1, ⟨fun d v h' H' e2 rd hh' q' => c d v h' H' (e1.trans e2) rd hh' q', fun _ _ _ z => z⟩⟩
/-! ### err.f -/
theorem lookup_rds {K : PySem.W.Frag} {H : Hp} {n : Str} {d : D} : ∀ {fs : List (Str × D)} {gs : List (Str × V)}, gs.map (·.1) = fs.map (·.1) → RDs K H (fs.map (·.2)) (gs.map (·.2)) → fs.lookup n = some d → ∃ v, gs.lookup n = some v ∧ RD K H d v
  | [], _, _, _, e => by simp at e
  | (m, x) :: fs, [], h, _, _ => by simp at h
  | (m, x) :: fs, (m', v) :: gs, h, r, e => by
    simp only [List.map_cons, List.cons.injEq] at h
    obtain ⟨h1, h2⟩ := h
    obtain rfl : m' = m := h1
    cases r with
    | cons r1 r2 =>
      by_cases hn : (n == m') = true
      · simp only [List.lookup_cons, hn] at e ⊢
        cases e
        exact ⟨_, rfl, r1⟩
      · simp only [List.lookup_cons, Bool.not_eq_true] at hn e ⊢
        rw [hn] at e ⊢
        exact lookup_rds h2 r2 e
def aXf (a dd : Addr) (n : Str) (te : AE) : AE := fun σ h R => te σ h fun x h1 => x = .ref a ∧ ∃ fs v, h1 dd = some (.xd fs) ∧ fs.lookup n = some v ∧ R v h1
theorem e_xf {C dd : Addr} {oe : Obj} {d : Option Addr} {pn : List (Addr × Obj)} {n : Str} (T : XfC X.K C) (hno : PySem.W.findIn X.K (.ref C) n = some none)
    (hz : Zc (.ref C) d oe) (hf : ∃ vs, oe.data = .fields vs) (hd : d = some dd) (he : EJ (X.suite f ((f, oe) :: pn)) e ta) (hb : attributeBase e n X.env (eval e X.env) = eval e X.env := by rfl) :
    EJ (X.suite f ((f, oe) :: pn)) (.Attribute e n pos) (aXf f dd n ta) := (pe_xf T hno hz hf he hb).imp fun τ H Q _ ⟨σ, h, R, hs, hh, q, c⟩ =>
  ⟨σ, h, _, hs, hh, q, fun y v h1 H1 e1 rd hh1 ⟨z1, fs, u, z2, z3, z4⟩ => by
    subst z1
    cases rd
    obtain ⟨gs, g1, g2, g3⟩ := hh1 dd _ z2
    obtain ⟨w, w1, w2⟩ := lookup_rds g2 g3 z3
    exact ⟨rfl, rfl, dd, gs, w, hd, g1, w1, c u w h1 H1 e1 w2 hh1 z4⟩⟩
end
/-! ### try .. except X as n -/
def unA (i : Nat) (E : AEnds) : AEnds := { nx := fun σ h => E.nx (σ.set i none) h, rt := E.rt, bk := fun σ h => E.bk (σ.set i none) h, ct := fun σ h => E.ct (σ.set i none) h }
/-- clauses: class, the suite's reading by the exception's address and its dict's -/
abbrev AHd := Addr × (Addr → Addr → AS)
def aHs (Cs : List Addr) (i : Nat) (EO : ASt → AXK) (E : AEnds) : List AHd → ASt → AXK
  | [] => EO
  | (c, ts) :: r => fun σ C fs h => C ∈ Cs ∧ (C = c → fs ≠ [] ∧ ∀ a dd, h dd = none → ts a dd (unA i E) (σ.set i (some (.ref a))) (aup h dd (.xd fs))) ∧ (C ≠ c → aHs Cs i EO E r σ C fs h)
def aTry (Cs : List Addr) (i : Nat) (EO : ASt → AXK) (hs : List AHd) (tb : (ASt → AXK) → AS) : AS := fun E σ h => tb (aHs Cs i EO E hs) E σ h
/-- the matching of the classes that are told of -/
structure ExcEq (K : PySem.W.Frag) (Cs : List Addr) : Prop where
  m : ∀ C ∈ Cs, ∀ c ∈ Cs, PySem.W.exmOne K (.ref C) (.ref c) = some (decide (C = c))
inductive HdsA (X : Cx) (Cs : List Addr) (n : Str) : List ExceptHandler → List AHd → Prop
  | nil : HdsA X Cs n [] []
  | cons {x : Str} {c : Addr} {ts : Addr → Addr → AS} {b₀ : Stmt} {suite : List Stmt} {np pos' : Pos} {hds : List ExceptHandler} {l : List AHd} (hc : Names X x (.ref c)) (hm : c ∈ Cs)
      (hsu : ∀ (a dd : Addr) (oe : Obj) (d : Option Addr) (pn : List (Addr × Obj)), Zc (.ref c) d oe → (∃ vs, oe.data = .fields vs) → d = some dd → BJ0 (X.suite a ((a, oe) :: pn)) (b₀ :: suite) (ts a dd)) (r : HdsA X Cs n hds l) :
      HdsA X Cs n (.ExceptHandler (some (.Name x np)) (some n) (b₀ :: suite) pos' :: hds) ((c, ts) :: l)
section
variable {X : Cx} {Cs : List Addr} {n : Str} {i : Nat} {body : List Stmt} {h₀ : ExceptHandler} {hds : List ExceptHandler} {l : List AHd} {pos : Pos} {EO : ASt → AXK}
/-- a clause's reading, as the layer has it -/
def cHd (X : Cx) (c : Addr) (ts : Addr → Addr → AS) : Addr → Value → Option Addr → TS := fun a cls d D τ H => ∃ dd, cls = .ref c ∧ d = some dd ∧ upS0 X (ts a dd) D τ H
theorem hds_as (h : HdsA X Cs n hds l) : HdsAs X n hds (l.map fun p => (Value.ref p.1, cHd X p.1 p.2)) := by
  induction h with
  | nil => exact .nil
  | cons hc hm hsu r ih =>
    refine .cons hc (fun a oe cls d pn hz hf => ⟨fun pins s τ H D I ⟨dd, h1, h2, σ, h, E, hs, hh, q, k⟩ => ?_⟩) ih
    subst h1
    exact (hsu a dd oe d pn hz hf h2).run pins s τ H D I ⟨σ, h, E, hs, hh, q, ⟨k.nx, k.rt, k.bk, k.ct⟩⟩
/-- the try's body -/
def tBodyS (X : Cx) (tb : (ASt → AXK) → AS) (W : WX) : TS := fun D τ H => ∃ EA σ h E, (∀ cls d τ' H', upWX X EA cls d τ' H' → W cls d τ' H') ∧ RS X.K H σ τ ∧ RH X h H ∧ tb EA E σ h ∧ EndOk X X.H_0 E D
theorem hs_up (xe : ExcEq X.K Cs) {Wout : WX} (hW : ∀ cls d τ' H', upWX X EO cls d τ' H' → Wout cls d τ' H') {E : AEnds} {D : Ends} (k : EndOk X X.H_0 E D) (h : HdsA X Cs n hds l) :
    ∀ cls d τ' H', upWX X (aHs Cs i EO E l) cls d τ' H' → wAsMany X.K Wout D i (l.map fun p => (Value.ref p.1, cHd X p.1 p.2)) cls d τ' H' := by
  induction h with
  | nil => exact hW
  | @cons x c ts b₀ suite np pos' hds l hc hm hsu r ih =>
    rintro cls d τ' H' ⟨C, fs, h', σ, rfl, xf, ext, hs, hh, hC, q1, q2⟩
    refine ⟨decide (C = c), xe.m C hC c hm, fun hb a ha => ?_, fun hb => ?_⟩
    · have e : C = c := of_decide_eq_true hb
      obtain ⟨hne, q⟩ := q1 e
      subst e
      cases fs with
      | nil => exact absurd rfl hne
      | cons f0 fr =>
        obtain ⟨dd, gs, h1, h2, h3, h4, h5⟩ := xf
        have hh2 : RH X (aup h' dd (.xd (f0 :: fr))) H' := fun b o eo => by
          by_cases hb : b = dd
          · subst hb; rw [aup_same] at eo; cases eo
            exact ⟨gs, h3, h4, h5⟩
          · rw [aup_ne hb] at eo; exact hh b o eo
        refine ⟨dd, rfl, h1, σ.set i (some (.ref a)), _, unA i E, hs.set i (.ref a), hh2, q a dd h2, ?_⟩
        exact ⟨fun σ' h' τ' H' e1 hs' hh' q' => k.nx _ _ _ _ e1 (hs'.none i) hh' q', k.rt, fun σ' h' τ' H' e1 hs' hh' q' => k.bk _ _ _ _ e1 (hs'.none i) hh' q', fun σ' h' τ' H' e1 hs' hh' q' => k.ct _ _ _ _ e1 (hs'.none i) hh' q'⟩
    · have e : C ≠ c := of_decide_eq_false hb
      exact ih _ _ _ _ ⟨C, fs, h', σ, rfl, xf, ext, hs, hh, q2 e⟩
theorem s_tryAs {tb : (ASt → AXK) → AS} (xe : ExcEq X.K Cs) (hs : X.stack = X.env :: X.outer) (hf : X.env.frame = some X.env.locals) (hN : X.N.Nodup) (hi : X.N[i]? = some n) (hln : X.env.kindOf n = some .local) (tk : XTkS X EO)
    (hb : ∀ (EA : ASt → AXK) (pn : List (Addr × Obj)) (xe : Value → Shared → Prop), XTkS (X.tr pn xe) EA → PassesOwn (model X.prog X.w) X.A X.env xe → BJ0 (X.tr pn xe) body (tb EA))
    (hh : HdsA X Cs n (h₀ :: hds) l) : SJ0 X (.Try body (h₀ :: hds) [] [] pos) (aTry Cs i EO l tb) :=
  (ps_try_asMany (tb := tBodyS X tb) hs hf hN hi hln tk (fun W pn xe tk' hp => ⟨fun pins s τ H D I ⟨EA, σ, h, E, hW, hs, hh, q, k⟩ => (hb EA pn xe (tk'.imp hW) hp).run pins s τ H D I ⟨σ, h, E, hs, hh, q, ⟨k.nx, k.rt, k.bk, k.ct⟩⟩⟩) (hds_as hh)).imp
    fun D τ H _ ⟨σ, h, E, hs, hh', q, k⟩ => ⟨aHs Cs i EO E l, σ, h, E, hs_up xe (fun _ _ _ _ z => z) k hh, hs, hh', q, k⟩
theorem tk_EO {E : AXK} (tk : Takes X (fun c d _ H' => upXK X.prog X.w X.K X.H_0 E c d H')) : XTkS X (fun _ => E) := tk.imp fun c d τ H' ⟨C, fs, h', σ, z1, z2, z3, z4, z5, z6⟩ => ⟨C, fs, h', z1, z2, z3, z5, z6⟩
/-- nothing else is raised -/
def EO0 : ASt → AXK := fun _ _ _ _ => False
theorem tk_EO0 : XTkS X EO0 := fun u s' xx => by
  obtain ⟨_, _, _, _, _, _, _, _, _, _, _, _, _, _, _, _, z⟩ := xx
  obtain ⟨_, _, _, _, _, _, _, _, _, z⟩ := z
  exact z.elim
end
/-! ### try .. except X -/
def aHs1 (Cs : List Addr) (EO : ASt → AXK) (E : AEnds) (c : Addr) (ts : AS) : ASt → AXK := fun σ C fs h => C ∈ Cs ∧ (C = c → ts E σ h) ∧ (C ≠ c → EO σ C fs h)
def aTry1 (Cs : List Addr) (EO : ASt → AXK) (c : Addr) (ts : AS) (tb : (ASt → AXK) → AS) : AS := fun E σ h => tb (aHs1 Cs EO E c ts) E σ h
theorem s_try1 {X : Cx} {Cs : List Addr} {x : Str} {c : Addr} {np pos' pos : Pos} {body : List Stmt} {b₀ : Stmt} {suite : List Stmt} {EO : ASt → AXK} {ts : AS} {tb : (ASt → AXK) → AS} (xe : ExcEq X.K Cs) (hs : X.stack = X.env :: X.outer) (hf : X.env.frame = some X.env.locals) (hc : Names X x (.ref c)) (hm : c ∈ Cs) (tk : XTkS X EO)
    (hb : ∀ (EA : ASt → AXK) (pn : List (Addr × Obj)) (xe : Value → Shared → Prop), XTkS (X.tr pn xe) EA → PassesOwn (model X.prog X.w) X.A X.env xe → BJ0 (X.tr pn xe) body (tb EA))
    (hsu : ∀ (a : Addr) (oe : Obj) (pn : List (Addr × Obj)), BJ0 (X.suite a ((a, oe) :: pn)) (b₀ :: suite) ts) : SJ0 X (.Try body [.ExceptHandler (some (.Name x np)) none (b₀ :: suite) pos'] [] [] pos) (aTry1 Cs EO c ts tb) :=
  (ps_try_only (tb := tBodyS X tb) (ts := fun a cls d D τ H => upS0 X ts D τ H) hs hf hc tk (fun W pn xe tk' hp => ⟨fun pins s τ H D I ⟨EA, σ, h, E, hW, hs, hh, q, k⟩ => (hb EA pn xe (tk'.imp hW) hp).run pins s τ H D I ⟨σ, h, E, hs, hh, q, ⟨k.nx, k.rt, k.bk, k.ct⟩⟩⟩)
    (fun a oe cls d pn hz hf => ⟨fun pins s τ H D I ⟨σ, h, E, hs, hh, q, k⟩ => (hsu a oe pn).run pins s τ H D I ⟨σ, h, E, hs, hh, q, ⟨k.nx, k.rt, k.bk, k.ct⟩⟩⟩)).imp
    fun D τ H _ ⟨σ, h, E, hs, hh', q, k⟩ => ⟨aHs1 Cs EO E c ts, σ, h, E, fun cls d τ' H' ⟨C, fs, h', σ', z1, z2, z3, z4, z5, hC, q1, q2⟩ => by
      subst z1
      refine ⟨decide (C = c), xe.m C hC c hm, fun hb a ha => ?_, fun hb => ?_⟩
      · exact ⟨σ', h', E, z4, z5, q1 (of_decide_eq_true hb), k⟩
      · exact ⟨C, fs, h', σ', rfl, z2, z3, z4, z5, q2 (of_decide_eq_false hb)⟩, hs, hh', q, k⟩
/-- THE RULE for a def with a try -/
theorem afn0 {gd : Prop} {P : Program} {w : World} {K : PySem.W.Frag} {mg : Str → Option Value} {base : Heap} {x qual : Str} {params : Arguments} {body : List Stmt} {scope : Scope} {dvs : List V} {kws : List (Str × V)} {f : Addr} {fd : FuncData} {N ps : List Str} {k : Nat} {sp : ASp}
    (F : FunD K x qual params body scope dvs kws f fd) (S : FnScope N ps scope) (len : ∀ ds h R E, sp ds h R E → ds.length = ps.length)
    (hbody : ∀ (cdv : Value) (A : Around) (outer : List Env) (s : Shared) (H : Hp) (W : XK) (ds : List D) (h : AH) (R : DK) (E : AXK), Room k (A.deeper (envOfC qual scope s.heap.objs.size f cdv)) → (gd → (A.deeper (envOfC qual scope s.heap.objs.size f cdv)).guards = some []) → sp ds h R E →
      Takes (cxOf (L2.CX P w) P w K mg base N qual scope f cdv A outer s H W) (fun c d _ H' => upXK P w K H E c d H') →
      ∃ t, BJ0 (cxOf (L2.CX P w) P w K mg base N qual scope f cdv A outer s H W) body t ∧ t { nx := fun _ h' => fgR R .non h', rt := fgR R } (astart N ds) h) :
    FnG gd P w K mg base (k + 1) f fd ps (upSp P w K sp) := by
  refine fn_G F S (fun vs H Q E ⟨ds, h, R, E', r, _, q, _⟩ => by rw [← r.length]; exact len _ _ _ _ q) fun cdv A outer s H vs Q W _ hr hg ⟨ds, h, R, E, r, hh, q, k1⟩ => ?_
  have tk : Takes (cxOf (L2.CX P w) P w K mg base N qual scope f cdv A outer s H W) (fun c d _ H' => upXK P w K H E c d H') := Takes.imp (takes_of rfl rfl rfl rfl) fun c d σ H' z => k1.ex c d H' z
  obtain ⟨t, ht, q2⟩ := hbody cdv A outer s H W ds h R E hr hg q tk
  refine ⟨_, ht, astart N ds, h, _, ?_, hh, q2, ⟨fun σ' h' τ' H' e1 hs' hh' ⟨h0, s0, q'⟩ => k1.rt .non .non h0 H' e1 .non (RHp.weak hh' s0) q', fun d v h' H' e1 rd hh' ⟨h0, s0, q'⟩ => k1.rt d v h0 H' e1 rd (RHp.weak hh' s0) q', fun _ _ _ _ _ _ _ z => z.elim, fun _ _ _ _ _ _ _ z => z.elim⟩⟩
  unfold astart L2.start
  rw [r.length]
  exact RS.start r _
end AX

set_option Elab.async false
set_option linter.all false
set_option maxRecDepth 100000
set_option maxHeartbeats 4000000
namespace AX
open PySem PySem.Spec PyProof.Rows L2 LamX
/-- refused: try: a() / except x: return True / return False -/
def TRef (K : PySem.W.Frag) (CN : Addr) : (XK → Hp → VK → Prop) → Hp → VK → Prop := fun tl H Q =>
  tl (fun cls _ H' => ∃ b, PySem.W.exmOne K cls (.ref CN) = some b ∧ (b = true → HExt H H' → Q (.bl true) H') ∧ (b = false → False)) H fun _ H' => Q (.bl false) H'
theorem refused_gives {X : Cx} {Ng : List Str} {x a e q : Str} {sg : Scope} {g CN : Addr} {cdg : Value} {j j2 : Nat} {p1 p2 p3 p4 p5 p6 p7 p8 p9 p10 : Pos} (hge : sg.names.lookup e = some .globalImplicit) (hme : X.mg e = some (.ref CN)) (hde : (e == ("__debug__" : Str)) = false)
    (h0 : ∀ f : Addr, (L2.start Ng [V.ref f])[0]? = some (some (V.ref f))) :
    GivesTo X Ng x sg g cdg [.Try [.Expr (.Call (.Name a p1) [] [] p2) p3] [.ExceptHandler (some (.Name e p4)) none [.Return (some (.Constant (.bool true) j p5)) p6] p7] [] [] p8, .Return (some (.Constant (.bool false) j2 p9)) p10] a q (TRef X.K CN) := by
  intro f c' s H Q tl act hc h
  have hgl : Gl (cxOf C8.CX0 X.prog X.w X.K X.mg X.base Ng x sg g cdg X.A X.stack s H C8.E0).nox e := hge
  refine ⟨_, pss_cons (ps_try_only (X := (cxOf C8.CX0 X.prog X.w X.K X.mg X.base Ng x sg g cdg X.A X.stack s H C8.E0).nox) (c := .ref CN)
      (tb := fun W D σ H => ∃ Ech : XK, (∀ cls d σ' H', Ech cls d H' → W cls d σ' H') ∧ σ[0]? = some (some (.ref f)) ∧ H c' = some (CodeO c' q) ∧ tl Ech H fun _ H' => D.nx σ H')
      rfl rfl ⟨hgl, hde, .inl hme⟩ LamX.takes0 (fun W pn xe tk _ => ?_) (ts := fun a cls d D σ H' => HExt H H' → D.rt (.bl true) H') (fun a oe cls d pn _ _ => (pss_one (ps_ret pe_bl)).imp fun D τ H' x q => q x)) (pss_one (ps_ret pe_bl)), ?_⟩
  · refine ⟨fun pins s' σ H' D I h' => ?_⟩
    obtain ⟨Ech, hW, h1, h2, h3⟩ := h'
    have hp := act W pn xe Ech p1 p2 tk hW
    have hq := pss_one (ps_expr (pos := p3) hp)
    exact hq.run pins s' σ H' D I ⟨h1, h2, h3⟩
  · exact ⟨fun cls _ H' => ∃ b, PySem.W.exmOne X.K cls (.ref CN) = some b ∧ (b = true → HExt H H' → Q (.bl true) H') ∧ (b = false → False), fun cls d σ' H' ⟨b, e1, e2, e3⟩ => ⟨b, e1, fun hb a _ hx => e2 hb hx, fun hb => e3 hb⟩, h0 f, hc, h⟩
end AX

set_option Elab.async false
set_option linter.all false
set_option maxRecDepth 100000
set_option maxHeartbeats 4000000
namespace AX
open PySem PySem.Spec PyProof.Rows L2 LamX
theorem lam_tk {X : Cx} {A : Around} {outer : List Env} {s : Shared} {H : Hp} {E : XK} {scope : Scope} {f c' : Addr} : Takes (lamCx X A outer s H E scope f c') (fun cls d _ H' => E cls d H') := takes_of (X := lamCx X A outer s H E scope f c') (E := E) rfl rfl rfl rfl
end AX

set_option Elab.async false
set_option linter.all false
set_option maxRecDepth 100000
set_option maxHeartbeats 4000000
namespace AX
open PySem PySem.Spec PyProof.Rows L2 LamX
def EAof (P : Program) (w : World) (K : PySem.W.Frag) (E : XK) : AXK := fun C fs h' => ∀ d H'', XF K H'' h' d fs → RHp P w K h' H'' → E (.ref C) d H''
theorem lam_xpass {X : Cx} {A : Around} {outer : List Env} {s : Shared} {H : Hp} {E : XK} {scope : Scope} {f c' : Addr} : XPass (lamCx X A outer s H E scope f c') (EAof X.prog X.w X.K E) :=
  passes_call lam_tk fun cls d σ H' z => by
    obtain ⟨C, fs, h', rfl, xf, ext, hh, e⟩ := z
    exact e d H' xf hh
/-- x(lambda: body), x says whether the call of the lambda raised CN -/
def aRef (CN P : Addr) (q : Str) (te : AXK → AE) : AE := fun σ h R => ∃ h0, Sub h0 h ∧ h0 P = some (.tab q) ∧ (∀ a q', h0 a = some (.tab q') → a = P) ∧
  ∀ EA : AXK, (∀ fs h', R (.bl true) h' → EA CN fs h') → te EA σ h0 fun _ h' => R (.bl false) h'
section
variable {X : Cx}
/-- ExtN carries what is told of a heap whose only table is P's -/
theorem RHp.extN {P : Program} {w : World} {K : PySem.W.Frag} {h : AH} {H H1 : Hp} {p : Addr} {q : Str} (hh : RHp P w K h H) (hp : h p = some (.tab q)) (only : ∀ a q', h a = some (.tab q') → a = p) (x : ExtN H H1) (t : TabS H1 p q) : HExt H H1 ∧ RHp P w K h H1 := by
  have e : HExt H H1 := ⟨fun b xs z => x b _ z (fun ps y => by cases y), fun b o u z => x b _ z (fun ps y => by cases y)⟩
  refine ⟨e, fun a o ea => ?_⟩
  have r := hh a o ea
  by_cases ha : ∃ q', o = .tab q'
  · obtain ⟨q', rfl⟩ := ha
    obtain rfl := only a q' ea
    rw [hp] at ea; cases ea
    exact t
  · obtain ⟨u, hu⟩ := r.there
    have nt : ∀ ps, u ≠ .tbl ps := fun ps z => by
      subst z
      cases o with
      | lst xs => obtain ⟨_, z, _⟩ := r; rw [hu] at z; cases z
      | dK xs => obtain ⟨_, z, _⟩ := r; rw [hu] at z; cases z
      | ins C xs => obtain ⟨_, _, z, _⟩ := r; rw [hu] at z; cases z
      | dN xs => obtain ⟨_, _, _, _, _, z, _⟩ := r; rw [hu] at z; unfold DNo at z; cases z
      | tab q => exact ha ⟨q, rfl⟩
      | xd q => obtain ⟨_, z, _⟩ := r; rw [hu] at z; cases z
    exact r.keep e ((x a u hu nt).trans hu.symm) fun c q z => x c _ z fun ps y => by unfold CodeO at y; cases y
end
end AX

set_option Elab.async false
set_option linter.all false
set_option maxRecDepth 100000
set_option maxHeartbeats 4000000
namespace AX
open PySem PySem.Spec PyProof.Rows L2 LamX
def tBody (X : Cx) (te : AXK → AE) (E : XK) : TE := fun τ H Q => ∃ σ h R, RS X.K H σ τ ∧ RH X h H ∧ te (EAof X.prog X.w X.K E) σ h R ∧ Cont X H R Q
theorem tRef_of {X : Cx} {CN P : Addr} {q : Str} {te : AXK → AE} {τ : L2.St} {H : Hp} {Q : VK} (hx : PySem.W.exmOne X.K (.ref CN) (.ref CN) = some true) (hq : upE X (aRef CN P q te) τ H Q) :
    tLam [(P, q)] (TRef X.K CN) (tBody X te) τ H Q := by
  obtain ⟨σ, h, R, hs, hh, ⟨h0, s0, hp, on, hte⟩, c⟩ := hq
  have hh0 : RH X h0 H := RHp.weak hh s0
  refine ⟨fun p hm => ?_, fun H1 x T1 => ?_⟩
  · simp only [List.mem_cons, List.not_mem_nil, or_false] at hm
    subst hm
    exact hh0 P _ hp
  · obtain ⟨e, hh1⟩ := RHp.extN hh0 hp on x (T1 (P, q) (by simp))
    refine ⟨σ, h0, _, hs.mono e, hh1, hte _ fun fs h' r d H'' xf hh'' => ?_, fun d v h' H' e2 rd hh' r => c (.bl false) (.bl false) h' H' (e.trans e2) (.bl false) hh' r⟩
    exact ⟨true, hx, fun _ e2 => c (.bl true) (.bl true) h' H'' (e.trans e2) (.bl true) hh'' r, fun z => by cases z⟩
end AX

set_option Elab.async false
set_option linter.all false
set_option maxRecDepth 100000
set_option maxHeartbeats 4000000
namespace AX
open PySem PySem.Spec PyProof.Rows L2 LamX
theorem e_refused {X : Cx} {CN : Addr} {x a : Str} {g c P : Addr} {k : Nat} {pg : Arguments} {bg : List Stmt} {sg : Scope} {dV kV doc pm cdv ct oc : Value} {an od : Option Addr} {osl : Array (Option Value)} {Ng : List Str}
    {params : Arguments} {body : Expr} {scope : Scope} {te : AXK → AE} {p lpos pos : Pos} (hg : Gl X x) (hm : X.mg x = some (.ref g)) (hk : PySem.W.keepIn X.K (.ref g) = true)
    (lk : X.K.lookup g = some ⟨oc, od, .func (PySem.W.fnOf x x pg bg sg dV kV doc pm an cdv ct), osl⟩) (hcg : PySem.W.codeIn X.K cdv x = true) (hb : L2.Binds X.K (PySem.W.fnOf x x pg bg sg dV kV doc pm an cdv ct) [a] []) (Sg : FnScope Ng [a] sg) (hNg : Ng[0]? = some a) (hva : Vis sg a)
    (hGv : GivesTo X Ng x sg g cdv bg a (X.env.qual ++ "<lambda>") (TRef X.K CN)) (hx : PySem.W.exmOne X.K (.ref CN) (.ref CN) = some true)
    (TB : TabB X.base X.mg c P) (hcode : X.env.code = .ref c) (hr : Room (k + 2) X.A) (L : LamS X.env.scope scope) (hdef : defaultsOf params X.env = ([], []))
    (hbind : ∀ (q : Str) (cl : List (Str × Addr)) (pm cv ctv : Value), bindArgs (PySem.W.kla_fn "<lambda>" q params body scope cl pm cv ctv) ⟨[], []⟩ = pure [])
    (hbody : ∀ (A : Around) (outer : List Env) (s : Shared) (H : Hp) (E : XK) (f c' : Addr), Room k (A.deeper (lamEnv X scope s.heap.objs.size f c')) → EJ (lamCx X A outer s H E scope f c') body (te (EAof X.prog X.w X.K E)))
    (hdb : (x == ("__debug__" : Str)) = false := by decide) (hd : (a == ("__debug__" : Str)) = false := by decide) (hcd : (a == ("__classdict__" : Str)) = false := by decide) :
    EJ X (.Call (.Name x p) [.Lambda params body scope lpos] [] pos) (aRef CN P (X.env.qual ++ "<lambda>") te) :=
  (pe_lamcall (T := [(P, X.env.qual ++ "<lambda>")]) (t := tBody X te) hg hm hk lk hcg hb Sg hNg hva hGv TB hcode (by simp) (fun p hp _ => by simp at hp; rw [hp]) hr L hdef hbind hbody hdb hd hcd).imp fun τ H Q _ q => tRef_of hx q
end AX

set_option Elab.async false
set_option linter.all false
set_option maxRecDepth 100000
set_option maxHeartbeats 4000000
namespace AX
open PySem PySem.Spec PyProof.Rows L2 LamX
/-! ### the script: a list of ints that stays -/
def FrL (K : PySem.W.Frag) (H : Hp) (a : Addr) (ns : List Int) : Prop :=
  (∃ o, H a = some (.frz o (.lst (ns.map V.int)))) ∨ ∃ (o : Obj) (its : Array Value) (n : Nat), K.lookup a = some o ∧ o.cls = .type "list" ∧ o.dict = none ∧ o.data = .seq its n ∧ its.size ≤ sizeLine ∧ Vals (ns.map V.int) its.toList
theorem FrL.sq {K : PySem.W.Frag} {H : Hp} {a : Addr} {ns : List Int} (f : FrL K H a ns) : SqL K H a (ns.map V.int) := f.elim (fun h => .inl (.inr h)) .inr
theorem FrL.mono {K : PySem.W.Frag} {H H' : Hp} {a : Addr} {ns : List Int} (f : FrL K H a ns) (x : HExt H H') : FrL K H' a ns := f.elim (fun ⟨o, h⟩ => .inl ⟨o, x.frzs _ _ _ h⟩) .inr
section
variable {X : Cx} {e a : Expr} {es : List Expr} {ta : AE} {t : AA} {pos p p2 : Pos} {k : Nat} {f : Addr} {fd : FuncData} {ps : List Str} {x : Str}
/-- script[:63] -/
def aScr (l : Addr) (ns : List Int) (te : AE) : AE := fun σ h R => te σ h fun d h1 => d = .ref l ∧ ns.length ≤ 63 ∧ ∀ p, h1 p = none → R (.ref p) (aup h1 p (.lst (ns.map D.int)))
theorem e_scr {l : Addr} {ns : List Int} {j : Nat} {p3 : Pos} (F : FrL X.K X.H_0 l ns) (he : EJ X e ta) : EJ X (.Subscript e (.Slice none (some (.Constant (.int 63) j p3)) none p2) pos) (aScr l ns ta) :=
  (pe_slice sl_list he p_none (p_some (e_int (i := 63)))).imp fun τ H Q e0 ⟨σ, h, R, hs, hh, q, c⟩ => ⟨σ, h, _, hs, hh, q, fun d v h1 H1 e1 rd hh1 ⟨q1, q2, q3⟩ => by
    subst q1
    cases rd
    have FF := (F.mono (e0.trans e1)).sq
    refine ⟨σ, h1, fun o h' => h' = h1 ∧ o = none, hs.mono e1, hh1, ⟨rfl, rfl⟩, ?_⟩
    rintro o h2 H2 e2 hh2 ⟨rfl, rfl⟩
    refine ⟨σ, h2, fun o h' => h' = h2 ∧ o = some 63, (hs.mono e1).mono e2, hh2, ⟨rfl, rfl⟩, ?_⟩
    rintro o h3 H3 e3 hh3 ⟨rfl, rfl⟩
    refine ⟨l, ns.map V.int, rfl, (F.mono (((e0.trans e1).trans e2).trans e3)).sq, fun p hp => ?_⟩
    have ec : cutV (ns.map V.int) none (some 63) = ns.map V.int := by
      unfold cutV
      have := HT.sIx_nat (ns.map V.int).length (ns.map V.int).length 63
      rw [HT.sIx_none]
      rw [show ((63 : Nat) : Int) = 63 from rfl] at this
      rw [this, List.drop_zero, Nat.sub_zero, List.take_of_length_le]
      rw [List.length_map]
      omega
    rw [ec]
    exact c _ _ _ _ (((e1.trans e2).trans e3).trans (.new hp)) (.ref p) (hh3.new (o' := .lst (ns.map D.int)) hp ⟨_, upd_same, (RDs.of_ints ns)⟩) (q3 p (hh3.free hp))⟩
/-! ### defs that are handed the script -/
abbrev ASpF := Addr → List Int → ASp
def upSpF (P : Program) (w : World) (K : PySem.W.Frag) (sp : ASpF) : Sp := fun vs H Q W => ∃ ds h R E l ns, RDs K H ds vs ∧ RHp P w K h H ∧ FrL K H l ns ∧ sp l ns ds h R E ∧ SpOk P w K H R Q E W
theorem afnF {gd : Prop} {P : Program} {w : World} {K : PySem.W.Frag} {mg : Str → Option Value} {base : Heap} {x qual : Str} {params : Arguments} {body : List Stmt} {scope : Scope} {dvs : List V} {kws : List (Str × V)} {f : Addr} {fd : FuncData} {N ps : List Str} {k : Nat} {sp : ASpF}
    (F : FunD K x qual params body scope dvs kws f fd) (S : FnScope N ps scope) (len : ∀ l ns ds h R E, sp l ns ds h R E → ds.length = ps.length)
    (hbody : ∀ (cdv : Value) (A : Around) (outer : List Env) (s : Shared) (H : Hp) (W : XK) (ds : List D) (h : AH) (R : DK) (E : AXK) (l : Addr) (ns : List Int), fd.code = cdv → Room k (A.deeper (envOfC qual scope s.heap.objs.size f cdv)) → (gd → (A.deeper (envOfC qual scope s.heap.objs.size f cdv)).guards = some []) → FrL K H l ns → sp l ns ds h R E →
      ∃ t, BJ0 (cxOf (L2.CX P w) P w K mg base N qual scope f cdv A outer s H W) body t ∧ t { nx := fun _ h' => fgR R .non h', rt := fgR R } (astart N ds) h) :
    FnG gd P w K mg base (k + 1) f fd ps (upSpF P w K sp) := by
  refine fn_G F S (fun vs H Q E ⟨ds, h, R, E', l, ns, r, _, _, q, _⟩ => by rw [← r.length]; exact len _ _ _ _ _ _ q) fun cdv A outer s H vs Q W hcd hr hg ⟨ds, h, R, E, l, ns, r, hh, fl, q, k1⟩ => ?_
  obtain ⟨t, ht, q2⟩ := hbody cdv A outer s H W ds h R E l ns hcd hr hg fl q
  refine ⟨_, ht, astart N ds, h, _, ?_, hh, q2, ⟨fun σ' h' τ' H' e1 hs' hh' ⟨h0, s0, q'⟩ => k1.rt .non .non h0 H' e1 .non (RHp.weak hh' s0) q', fun d v h' H' e1 rd hh' ⟨h0, s0, q'⟩ => k1.rt d v h0 H' e1 rd (RHp.weak hh' s0) q', fun _ _ _ _ _ _ _ z => z.elim, fun _ _ _ _ _ _ _ z => z.elim⟩⟩
  unfold astart L2.start
  rw [r.length]
  exact RS.start r _
structure CalF (gd : Prop) (P : Program) (w : World) (K : PySem.W.Frag) (mg : Str → Option Value) (base : Heap) (k : Nat) (x : Str) (ps : List Str) (sp : ASpF) : Prop where
  ex : ∃ (f : Addr) (fd : FuncData), FnG gd P w K mg base k f fd ps (upSpF P w K sp) ∧ mg x = some (.ref f) ∧ PySem.W.keepIn K (.ref f) = true ∧ Binds K fd ps []
def aCallF (sp : ASpF) (l : Addr) (ns : List Int) (t : AA) : AE := fun σ h R => t σ h fun ds h1 => sp l ns ds h1 R AX0
theorem e_calF {gd : Prop} {k' : Nat} {sp : ASpF} {l : Addr} {ns : List Int} (FL : FrL X.K X.H_0 l ns) (C : CalF gd X.prog X.w X.K X.mg X.base k x ps sp) (hr : Room k' X.A) (hG : gd → X.A.guards = some []) (hg : Gl X x)
    (ha : AJ X (e :: es) t) (hk : k ≤ k' := by decide) (hdb : (x == ("__debug__" : Str)) = false := by decide) (he : starEach (e :: es) X.env = (false, eval e X.env) :: starEach es X.env := by rfl) (hpl : (backTo pos (starEach es X.env)).any (·.1) = false := by rfl) :
    EJ X (.Call (.Name x p) (e :: es) [] pos) (aCallF sp l ns t) := by
  obtain ⟨f, fd, F, hm, hkp, hb⟩ := C.ex
  refine ⟨fun pins s τ H Q I ⟨σ, h, R, hs, hh, q, c⟩ => ?_⟩
  refine wpAny_Call_Name_kw (ld_glob I hg hm ?_ hdb)
  refine PySem.W.callWith_K (h₀ := X.base) I.ok.mod.kin hkp (thn (ha.run pos pins s τ H (fun vs H1 => ∃ ds h1, HExt H H1 ∧ RDs X.K H1 ds vs ∧ RH X h1 H1 ∧ sp l ns ds h1 R AX0) I ⟨σ, h, _, hs, hh, q, fun ds vs h1 H1 e1 rds hh1 q1 => ⟨ds, h1, e1, rds, hh1, q1⟩⟩) fun us s1 ⟨vs, H1, I1, r, ds, h1, e1, rds, hh1, q1⟩ => ⟨I1.kIn, ?_⟩) he hpl
  exact run_G F (hr.mono hk) hG hb xpass0 I1 r ⟨ds, h1, R, AX0, l, ns, rds, hh1, FL.mono (ext0 I1), q1, ⟨fun d v h' H' e2 rd hh' q' => c d v h' H' (e1.trans e2) rd hh' q', fun cls d H' ⟨_, _, _, _, _, _, _, z⟩ => z.elim⟩⟩
end
/-! ### the head -/
/-- what the law is handed -/
def spLaw (P : Addr) (q : Str) : ASpF := fun l ns ds h R _ => ds = [.ref l] ∧ ns.length ≤ 63 ∧ h = (fun a => if a = P then some (.tab q) else none) ∧ ∀ h', R (.bl true) h'
theorem spLaw_ok {P : Program} {w : World} {K : PySem.W.Frag} {H : Hp} {T l : Addr} {q : Str} {ns : List Int} (hT : H T = some (.tbl #[])) (fl : FrL K H l ns) (hl : ns.length ≤ 63) : upSpF P w K (spLaw T q) [.ref l] H (fun v _ => v = .bl true) fun _ _ _ => False := by
  refine ⟨[.ref l], _, fun d _ => d = .bl true, AX0, l, ns, RDs.one (.ref l), fun a o e => ?_, fl, ⟨rfl, hl, rfl, fun _ => rfl⟩, ⟨fun d v h' H' _ rd _ e => ?_, fun cls d H' ⟨_, _, _, _, _, _, _, z⟩ => z.elim⟩⟩
  · by_cases ha : a = T
    · subst ha
      rw [if_pos rfl] at e; cases e
      exact TabS.nil hT
    · rw [if_neg ha] at e; cases e
  · subst e
    cases rd
    rfl
theorem noCX {P : Program} {w : World} {H : Hp} {s s' : Shared} {e : Value} (h : L2.CX P w [] H s (fun _ _ _ => False) e s') : False := by
  obtain ⟨_, _, _, _, _, _, _, _, _, _, _, _, z⟩ := h
  exact z
/-- the heap that the law's def begins with: the script, told by its ints, and one table T -/
def hp0 (K : PySem.W.Frag) (vs : List Value) (ns : List Int) (a T : Addr) : Hp := fun b => if b = T then some (.tbl #[]) else if b = a ∧ K.lookup a = none then some (.frz { cls := .type "list", data := .seq vs.toArray } (.lst (ns.map V.int))) else none
section
variable {P : Program} {w : World} {K : PySem.W.Frag} {mg mb : Str → Option Value} {vs : List Value} {ns : List Int} {a T c : Addr} {s : Shared}
theorem hp0_T : hp0 K vs ns a T T = some (.tbl #[]) := if_pos rfl
theorem hp0_a (h : a ≠ T) (hk : K.lookup a = none) : hp0 K vs ns a T a = some (.frz { cls := .type "list", data := .seq vs.toArray } (.lst (ns.map V.int))) := (if_neg h).trans (if_pos ⟨rfl, hk⟩)
theorem hp0_some {b : Addr} {u : HO} (e : hp0 K vs ns a T b = some u) : (b = T ∧ u = .tbl #[]) ∨ (b = a ∧ K.lookup a = none ∧ u = .frz { cls := .type "list", data := .seq vs.toArray } (.lst (ns.map V.int))) := by
  unfold hp0 at e
  by_cases h1 : b = T
  · rw [if_pos h1] at e; exact .inl ⟨h1, (Option.some.inj e).symm⟩
  · rw [if_neg h1] at e
    by_cases h2 : b = a ∧ K.lookup a = none
    · rw [if_pos h2] at e; exact .inr ⟨h2.1, h2.2, (Option.some.inj e).symm⟩
    · rw [if_neg h2] at e; cases e
structure Begin (P : Program) (K : PySem.W.Frag) (mg mb : Str → Option Value) (vs : List Value) (ns : List Int) (a T c : Addr) (s : Shared) : Prop where
  kx : K.In s.heap
  gl : s.heap.Ns mainGlobals mg
  bl : s.heap.Ns builtinsNs mb
  bb : ∀ x : Str, x ≠ "__name__" → mb x = bootBuiltins x
  lim : s.heap.NoLimit
  gens : s.gens = #[]
  tab : s.heap.get? T = some { cls := .none, data := .fields #[] }
  out : K.lookup T = none
  code : PySem.W.CodeHd s.heap c T
  bm : ∃ (bm : Addr) (ob : Obj), mg "__builtins__" = some (.ref bm) ∧ bm ≠ builtinsNs ∧ s.heap.get? bm = some ob ∧ ob.cls = .type "module" ∧ ob.dict = some builtinsNs ∧ ob.data = .plain
  scr : s.heap.get? a = some { cls := .type "list", data := .seq vs.toArray }
  iar : IntsAre vs ns
  size : ns.length ≤ sizeLine
theorem Begin.aT (B : Begin P K mg mb vs ns a T c s) : a ≠ T := fun e => by
  have h := B.scr
  rw [e, B.tab] at h
  have h' := congrArg Obj.data (Option.some.inj h)
  cases h'
theorem Begin.hok (B : Begin P K mg mb vs ns a T c s) : HOk P w (hp0 K vs ns a T) s.heap := fun b u e => by
  rcases hp0_some e with ⟨rfl, rfl⟩ | ⟨rfl, hk, rfl⟩
  · exact B.tab
  · exact ⟨B.scr, by rw [List.length_map]; exact B.size, vs, _, vals_ints B.iar, B.scr⟩
/-- what is neither the script nor the table is hidden from no one -/
theorem Begin.free (B : Begin P K mg mb vs ns a T c s) {b : Addr} {o : Obj} (e : s.heap.get? b = some o) (n1 : o ≠ { cls := .none, data := .fields #[] }) (n2 : o ≠ { cls := .type "list", data := .seq vs.toArray }) : hp0 K vs ns a T b = none := by
  cases q : hp0 K vs ns a T b with
  | none => rfl
  | some u =>
    rcases hp0_some q with ⟨rfl, _⟩ | ⟨rfl, _, _⟩
    · rw [B.tab] at e; exact absurd (Option.some.inj e).symm n1
    · rw [B.scr] at e; exact absurd (Option.some.inj e).symm n2
theorem Begin.base (B : Begin P K mg mb vs ns a T c s) {b : Addr} {o : Obj} (e : s.heap.get? b = some o) (n1 : o ≠ { cls := .none, data := .fields #[] }) (n2 : o ≠ { cls := .type "list", data := .seq vs.toArray }) : (hidT s.heap (hp0 K vs ns a T)).get? b = some o := hidT_get e (B.free e n1 n2)
theorem Begin.nsk (B : Begin P K mg mb vs ns a T c s) {b : Addr} {m : Str → Option Value} (g : s.heap.Ns b m) : (hidT s.heap (hp0 K vs ns a T)).Ns b m := by
  obtain ⟨o, es, ep, e, d, r⟩ := g
  exact ⟨o, es, ep, B.base e (fun z => by rw [z] at d; cases d) (fun z => by rw [z] at d; cases d), d, r⟩
theorem Begin.kb (B : Begin P K mg mb vs ns a T c s) : K.In (hidT s.heap (hp0 K vs ns a T)) := fun b o e => hidT_get (B.kx b o e) (by
  cases q : hp0 K vs ns a T b with
  | none => rfl
  | some u =>
    rcases hp0_some q with ⟨rfl, _⟩ | ⟨rfl, hk, _⟩
    · rw [B.out] at e; cases e
    · rw [hk] at e; cases e)
theorem Begin.mod (B : Begin P K mg mb vs ns a T c s) : Mod K mg (hidT s.heap (hp0 K vs ns a T)) := ⟨B.kb, B.nsk B.gl, ⟨mb, B.nsk B.bl, B.bb⟩, let ⟨mc, h1, h2⟩ := B.lim; ⟨mc, B.nsk h1, h2⟩⟩
theorem Begin.env (B : Begin P K mg mb vs ns a T c s) : Env0 P w K mg (hidT s.heap (hp0 K vs ns a T)) callerA [] s (hp0 K vs ns a T) :=
  ⟨rfl, B.mod, fun b o e => of_hidT e, Nat.le_of_eq (hidT_size _ _), trivial, fun b hb => (by cases hb), B.hok, .of_eq B.gens⟩
theorem Begin.tb (B : Begin P K mg mb vs ns a T c s) : TabB (hidT s.heap (hp0 K vs ns a T)) mg c T := by
  have nG : mainGlobals ≠ T := fun z => by
    obtain ⟨o, es, ep, e, hd, _⟩ := B.gl
    rw [z, B.tab] at e
    cases e
    cases hd
  refine ⟨?_, ?_, nG⟩
  · obtain ⟨o, us, file, tf, flags, tg, inF, text, tt, e1, r1, r2, r3, rest⟩ := B.code
    exact ⟨o, us, file, tf, flags, tg, inF, text, tt, B.base e1 (fun z => by rw [z] at r2; cases r2; simp at r3) (fun z => by rw [z] at r2; cases r2), r1, r2, r3, rest⟩
  · obtain ⟨bm, ob, b1, b2, b3, b4, b5, b6⟩ := B.bm
    refine ⟨bm, ob, b1, b2, fun z => ?_, fun z => ?_, B.base b3 (fun z => by rw [z] at b6; cases b6) (fun z => by rw [z] at b6; cases b6), b4, b5, b6⟩
    · obtain ⟨o, es, ep, e, hd, _⟩ := B.gl
      rw [z, e] at b3; cases b3
      rw [hd] at b6; cases b6
    · rw [z, B.tab] at b3; cases b3
      cases b6
theorem Begin.fl (B : Begin P K mg mb vs ns a T c s) : FrL K (hp0 K vs ns a T) a ns := by
  cases hk : K.lookup a with
  | none => exact .inl ⟨_, hp0_a B.aT hk⟩
  | some o =>
    have e := B.kx a o hk
    rw [B.scr] at e
    cases e
    refine .inr ⟨_, vs.toArray, _, hk, rfl, rfl, rfl, ?_, by simpa using vals_ints B.iar⟩
    rw [List.size_toArray, B.iar.length]
    exact B.size
/-- THE LAW'S CALL -/
theorem law_run {gd : Prop} {k : Nat} {fa : Addr} {fd : FuncData} {x q : Str} (B : Begin P K mg mb vs ns a T c s) (h63 : ns.length ≤ 63) (hr : Room k callerA)
    (F : ∀ base : Heap, K.In base → base.Ns mainGlobals mg → TabB base mg c T → FnG gd P w K mg base k fa fd [x] (upSpF P w K (spLaw T q))) (hbind : ∀ (s : Shared) (u : Value), BindsTo s fd ⟨[u], []⟩ [(x, u)]) :
    codeAny (model P w) callerA (.call (.ref fa) ⟨[.ref a], []⟩) (fun r s' => r = .ok (.ret (.bool true)) ∧ OldK s.heap s'.heap ∧ s'.os = s.os ∧ AllBare s'.gens) s := by
  refine codeAny_mono ((F _ B.kb (B.nsk B.gl) B.tb).run callerA [] s _ ⟨[.ref a], []⟩ [.ref a] [.ref a] (fun v _ => v = .bl true) (fun _ _ _ => False) hr (fun _ => rfl) B.env (hbind s (.ref a)) (.cons rfl .nil) (spLaw_ok hp0_T B.fl h63)) fun r s' h => ?_
  rcases r with e | fl
  · exact (noCX h).elim
  · rcases fl with _ | _ | _ | u
    · exact False.elim h
    · exact False.elim h
    · exact False.elim h
    · obtain ⟨v, H', os, bare, un, hok', r', q'⟩ := h
      have q' : v = .bl true := q'
      subst q'
      obtain rfl : u = Value.bool true := r'
      have old : ∀ b o, b ≠ T → s.heap.get? b = some o → s'.heap.get? b = some o := fun b o nb e => by
        cases z : hp0 K vs ns a T b with
        | none => exact un.keep b o e z (fun m => by cases m) (fun m => by cases m)
        | some u =>
          rcases hp0_some z with ⟨e1, _⟩ | ⟨rfl, hk, rfl⟩
          · exact absurd e1 nb
          · have z2 := un.frzs b _ _ z
            obtain ⟨e1, _⟩ := B.hok (P := P) (w := w) b _ z
            obtain ⟨e2, _⟩ := hok' b _ z2
            rw [e] at e1; cases e1
            exact e2
      obtain ⟨more, z⟩ := un.tbls T #[] hp0_T
      have grown : s'.heap.get? T = some { cls := .none, data := .fields more } := by
        have h3 := hok' T _ z
        rw [Array.empty_append] at h3
        exact h3
      refine ⟨rfl, ⟨fun b o e => ?_, fun b o e => ?_⟩, os, bare⟩
      · by_cases hb : b = T
        · subst hb
          rw [B.tab] at e
          cases e
          exact .inr (.inl ⟨(B.code.tab B.tab).isCodeTable, rfl, #[], more, rfl, by rw [Array.empty_append]; exact grown⟩)
        · exact .inl (old b o hb e)
      · by_cases hb : b = T
        · subst hb; exact ⟨_, grown⟩
        · exact ⟨o, old b o hb e⟩
end
/-- a law's end, over a head by facts -/
theorem walk_G {l : PySem.W.OpenLaw} {k : Nat} {q : Program} {loose : List Str} {XP : (Str → Option Value) → Heap → Prop} {YP : World → Heap → Prop} {d : DefRec} {x qn : Str} {gd : Prop}
    (hn : l.most = some 63) (hdf : d.params.defaults = []) (hr : Room k callerA)
    (F : ∀ (w : World) (mg : Str → Option Value) (fa : Addr) (h : Heap), YP w h → h.Ns mainGlobals mg → mg d.name = some (.ref fa) → ∃ (K : PySem.W.Frag) (fd : FuncData) (c T : Addr), K.In h ∧ h.get? T = some { cls := .none, data := .fields #[] } ∧ K.lookup T = none ∧ PySem.W.CodeHd h c T ∧
      (∀ (s : Shared) (u : Value), BindsTo s fd ⟨[u], []⟩ [(x, u)]) ∧ ∀ base : Heap, K.In base → base.Ns mainGlobals mg → TabB base mg c T → FnG gd l.prog w K mg base k fa fd [x] (upSpF l.prog w K (spLaw T qn))) :
    PySem.W.WalkO q loose XP YP l.row.toRowW d [] (fun f vs => PySem.call f vs) := by
  refine Att.attach_callB hn hdf fun w s₀ s₁ mg mb fa o pm cd doc a vs ns G Y ho hd hcd hmg hobj hints hlen hbits hg => ?_
  obtain ⟨K, fd, c, T, KX, hT, nT, hc, hb, hF⟩ := F w mg fa _ Y G.T.g hmg
  exact law_run (P := l.prog) ⟨KX, G.T.g, G.T.b, G.T.builtins, G.T.nolimit, hg, hT, nT, hc, G.T.bmain, hobj, hints, Nat.le_trans hlen (by decide)⟩ hlen hr hF hb
end AX

set_option Elab.async false
set_option linter.all false
set_option maxRecDepth 100000
set_option maxHeartbeats 4000000
namespace AX
open PySem PySem.Spec PyProof.Rows L2 He PySem.W PySem.Calls PySem.HandSPX
/-! ### the head by facts: what the module's names and the statics reach -/
def asY (g : Addr → Option Obj) : Nat → List Addr
  | 0 => [mainGlobals, cStatics]
  | n + 1 => growD g (asY g n)
/-- a method with the cell __class__ -/
abbrev InV : Type := Option (Str × Str × Arguments × FuncBody × Scope × Addr × List Str × Addr × Bool)
def inObs (K : Frag) (x : Str) : InV := match K.lookup (ma K (ga K x) "__init__") with
  | some ⟨_, _, .func fd, _⟩ => some (fd.name, fd.qualname, fd.params, fd.body, fd.scope, fd.globals, fd.closure.map (·.1), fd.builtins, (match fd.defaults, fd.kwdefaults, fd.code with
    | .none, .none, .ref _ => true
    | _, _, _ => false))
  | _ => none
structure InD where
  x : Str
  qual : Str
  params : Arguments
  body : List Stmt
  scope : Scope
def InD.val (d : InD) : InV := some ("__init__", d.qual, d.params, .stmts d.body, d.scope, mainGlobals, ["__class__"], builtinsNs, true)
abbrev AlY : Type := AlT × Bool × List InV
def obsY (n : Nat) (fa : List Fa) (fn : List DefD) (ts : List He.Tab) (ins : List InD) (tf : List Defn) (ex : Frag → Bool) (g : Addr → Option Obj) : AlY := (obsT fa fn ts (frT g (asY g n)), ex (frT g (asY g n)) && tabsB g tf (frT g (asY g n)), ins.map fun d => inObs (frT g (asY g n)) d.x)
def valY (fn : List DefD) (ts : List He.Tab) (ins : List InD) (w : World) : AlY := (valT fn ts w, true, ins.map InD.val)
structure SaysY (fa : List Fa) (fn : List DefD) (ts : List He.Tab) (ins : List InD) (tf : List Defn) (ex : Frag → Bool) (w : World) (h : Heap) (K : Frag) : Prop extends SaysX fa fn ts tf ex w h K where
  ini : ins.map (fun d => inObs K d.x) = ins.map InD.val
theorem SaysY.ini_ {fa : List Fa} {fn : List DefD} {ts : List He.Tab} {ins : List InD} {tf : List Defn} {ex : Frag → Bool} {w : World} {h : Heap} {K : Frag} (c : SaysY fa fn ts ins tf ex w h K) (i : Nat) {d : InD} (hi : ins[i]? = some d := by rfl) : inObs K d.x = d.val := by
  have e : (ins.map fun d => inObs K d.x)[i]? = (ins.map InD.val)[i]? := by rw [c.ini]
  rw [List.getElem?_map, List.getElem?_map, hi] at e
  exact Option.some.inj e
/-- a class's first def -/
def clsInit (st : Stmt) : Stmt := match st with
  | .ClassDef _ _ _ (d :: _) _ _ _ _ _ _ _ => d
  | _ => .Pass ⟨0, 0, 0, 0⟩
theorem saysY_of {n : Nat} {fa : List Fa} {fn : List DefD} {ts : List He.Tab} {ins : List InD} {tf : List Defn} {ex : Frag → Bool} {w : World} {h : Heap} (e : obsY n fa fn ts ins tf ex h.get? = valY fn ts ins w) : SaysY fa fn ts ins tf ex w h (frT h.get? (asY h.get? n)) := by
  have e1 : obsT fa fn ts (frT h.get? (asY h.get? n)) = valT fn ts w := congrArg (fun z : AlY => z.1) e
  have e2 : (ex (frT h.get? (asY h.get? n)) && tabsB h.get? tf (frT h.get? (asY h.get? n))) = true := congrArg (fun z : AlY => z.2.1) e
  obtain ⟨h1, h2⟩ := ba e2
  have key : ∀ p ∈ tf, codeHdIn (frT h.get? (asY h.get? n)) (cT (frT h.get? (asY h.get? n)) p).1 (cT (frT h.get? (asY h.get? n)) p).2 = true ∧ ∃ o, h.get? (cT (frT h.get? (asY h.get? n)) p).2 = some o ∧ emptyTab o = true := fun p hp => by
    obtain ⟨h3, h4⟩ := ba (List.all_eq_true.mp h2 p hp)
    refine ⟨h3, ?_⟩
    split at h4
    · rename_i o q; exact ⟨o, q, h4⟩
    · cases h4
  refine ⟨⟨e1, h1, fun p hp => (key p hp).1, fun p hp => ?_, fun p hp => ?_⟩, congrArg (fun z : AlY => z.2.2) e⟩
  · obtain ⟨_, o, q, z⟩ := key p hp
    exact frT_none q z
  · obtain ⟨_, o, q, z⟩ := key p hp
    rw [q, emptyTab_eq z]
def hookY (n : Nat) (fa : List Fa) (fn : List DefD) (ts : List He.Tab) (ins : List InD) (tf : List Defn) (ex : Frag → Bool) : Hook where
  α := AlY
  obs := fun s => obsY n fa fn ts ins tf ex s.heap.get?
  val := fun w => valY fn ts ins w
  says := fun w h => ∃ K : Frag, K.In h ∧ SaysY fa fn ts ins tf ex w h K
  of := fun _ _ e => ⟨_, frT_in, saysY_of e⟩
  keeps := fun _ _ _ ⟨K, hK, c⟩ k => ⟨K, Frag.In.keeps hK k, ⟨⟨c.t, c.more, c.hd, c.out, fun p hp => k _ _ (c.empty p hp)⟩, c.ini⟩⟩
theorem obsY_eq {n : Nat} {fa : List Fa} {fn : List DefD} {ts : List He.Tab} {ins : List InD} {tf : List Defn} {ex : Frag → Bool} {g : Addr → Option Obj} {s : Shared} (h : ∀ a, g a = s.heap.get? a) : obsY n fa fn ts ins tf ex g = (hookY n fa fn ts ins tf ex).obs s := by
  have e : g = s.heap.get? := funext h
  rw [e] <;> rfl
/-! ### an own exception's class, its __init__ -/
def exClsB (K : Frag) (C : Addr) : Bool := match K.lookup C with
  | some ⟨.type "type", _, .cls cd, sl⟩ => (match cd.mro, sl.toList with
    | .ref C' :: bm, [_, _, _, _, some (.builtin n), _] => C' == C && n == "ValueError.__new__" && !cd.hasDel && cd.hasDict && refsVE bm
    | _, _ => false)
  | _ => false
theorem exClsB_ok {K : Frag} {C : Addr} (q : exClsB K C = true) : ∃ nm qn N bs bm sn sub ab col dd k0 k1 k2 k3 k5, K.lookup C = some (excClassObj nm qn C N bs bm true sn sub ab col dd k0 k1 k2 k3 k5 "ValueError.__new__") ∧ refsVE bm = true := by
  unfold exClsB at q
  split at q
  · rename_i dd cd sl ho
    split at q
    · rename_i C' bm k0 k1 k2 k3 n k5 hm hs
      simp only [Bool.and_eq_true, beq_iff_eq, Bool.not_eq_true'] at q
      obtain ⟨⟨⟨⟨e1, e2⟩, hdel⟩, hd⟩, ht⟩ := q
      obtain ⟨nm, bs, mro, ns, qn, hdc, sn, sub, ab, col, del⟩ := cd
      dsimp only at hm hdel hd
      obtain ⟨l⟩ := sl
      simp only at hs
      subst hm hdel hd hs e1 e2
      exact ⟨_, _, _, _, _, _, _, _, _, _, _, _, _, _, _, ho, ht⟩
    · cases q
  · cases q
def fnCode (K : Frag) (f : Addr) : Addr := match K.lookup f with
  | some ⟨_, _, .func fd, _⟩ => (match fd.code with
    | .ref c => c
    | _ => 0)
  | _ => 0
def fnCell (K : Frag) (f : Addr) : Addr := match K.lookup f with
  | some ⟨_, _, .func fd, _⟩ => (match fd.closure with
    | [(_, c)] => c
    | _ => 0)
  | _ => 0
def cellB (K : Frag) (cc C : Addr) : Bool := match K.lookup cc with
  | some ⟨_, _, .cell (some (.ref D)), _⟩ => D == C
  | _ => false
theorem cellB_ok {K : Frag} {cc C : Addr} (q : cellB K cc C = true) : ∃ cl cld csl, K.lookup cc = some ⟨cl, cld, .cell (some (.ref C)), csl⟩ := by
  unfold cellB at q
  split at q
  · rename_i ho
    rw [beq_iff_eq] at q
    subst q
    exact ⟨_, _, _, ho⟩
  · cases q
def fileB (P : Program) (K : Frag) (c : Addr) : Bool := match K.lookup c with
  | some ⟨_, _, .fields vs, _⟩ => (match (vs[2]? : Option Value) with
    | some (.str file _) => (P.main.file : Str) == file
    | _ => false)
  | _ => false
theorem fileB_ok {P : Program} {K : Frag} {c : Addr} (q : fileB P K c = true) : ∃ ccl cdd vs ccs file tf, K.lookup c = some ⟨ccl, cdd, .fields vs, ccs⟩ ∧ vs[2]? = some (.str file tf) ∧ ((P.main.file : Str) == file) = true := by
  unfold fileB at q
  split at q
  · rename_i ho
    split at q
    · rename_i hv
      exact ⟨_, _, _, _, _, _, ho, hv, q⟩
    · cases q
  · cases q
/-- all that is asked of the class x with an own __init__ -/
def iniB (P : Program) (K : Frag) (x qual : Str) : Bool :=
  exClsB K (ga K x) && excInitIn K (ga K x) PySem.AXI.bmVE "ValueError.__new__" && eqO (findIn K (.ref (ga K x)) "__init__") (some (some (.ref (ma K (ga K x) "__init__")))) && decide (typeIn K (.ref (ma K (ga K x) "__init__")) = some (.type "function")) &&
  eqO (findIn K (.ref (ga K x)) "__setattr__") (some (some (.builtin "object.__setattr__"))) && eqO (ks_superIn K (ga K x) (ga K x) "__init__") (some (some (.builtin "ValueError.__init__"))) && decide (subIn K (.ref (ga K x)) (.type "ValueError") = some true) &&
  eqO (nsIn K cStatics "thirdparty.any") (some none) && cellB K (fnCell K (ma K (ga K x) "__init__")) (ga K x) && decide (mroIn K (ga K x) (.ref (ga K x)) = some true) && fileB P K (fnCode K (ma K (ga K x) "__init__")) && codeIn K (.ref (fnCode K (ma K (ga K x) "__init__"))) qual &&
  decide (subIn K (.ref (ga K x)) (.type "BaseException") = some true) && decide (typeIn K (.ref (ga K x)) = some (.type "type")) && keepIn K (.ref (ga K x))
theorem ini_ok {P : Program} {K : Frag} {mg : Str → Option Value} {x qual : Str} (q : iniB P K x qual = true) (d : InD) (hx : d.x = x) (hq : d.qual = qual) (e : inObs K x = d.val) (su : mg "super" = none) (top : (P.main.scope.names.lookup ("super" : Str)).isSome = false) :
    ∃ doc pm ct an cda, PySem.AXI.IniTxt K mg P (ga K x) (ma K (ga K x) "__init__") cda (fnCell K (ma K (ga K x) "__init__")) (ksFn "__init__" qual d.params d.body d.scope .none .none doc pm an (.ref cda) ct (fnCell K (ma K (ga K x) "__init__"))) := by
  subst hx hq
  unfold iniB at q
  simp only [Bool.and_eq_true, decide_eq_true_eq] at q
  obtain ⟨⟨⟨⟨⟨⟨⟨⟨⟨⟨⟨⟨⟨⟨q1, q2⟩, q3⟩, q4⟩, q5⟩, q6⟩, q7⟩, q8⟩, q9⟩, q10⟩, q11⟩, q12⟩, q13⟩, q14⟩, q15⟩ := q
  unfold inObs InD.val at e
  split at e
  · rename_i oc od fd osl ho
    obtain ⟨n1, n2, n3, n4, n5, n6, n7, n8, n9, n10, n11, n12, n13, n14, n15⟩ := fd
    simp only [Option.some.injEq, Prod.mk.injEq] at e
    obtain ⟨h1, h2, h3, h4, h5, h6, h7, h8, h9⟩ := e
    split at h9
    · rename_i cda
      subst h1 h2 h3 h4 h5 h6 h8
      have ec : ∃ cc, n7 = [(("__class__" : Str), cc)] := by
        match n7, h7 with
        | [(a, c)], h7 => simp at h7; exact ⟨c, by rw [h7]⟩
        | [], h7 => simp at h7
        | _ :: _ :: _, h7 => simp at h7
      obtain ⟨cc, rfl⟩ := ec
      have e1 : fnCell K (ma K (ga K d.x) "__init__") = cc := by unfold fnCell; rw [ho]
      have e2 : fnCode K (ma K (ga K d.x) "__init__") = cda := by unfold fnCode; rw [ho]
      rw [e1] at q9 ⊢
      rw [e2] at q11 q12
      exact ⟨_, _, _, _, cda, ⟨exClsB_ok q1, q2, eqO_ok q3, q4, eqO_ok q5, eqO_ok q6, q7, eqO_ok q8, cellB_ok q9, q10, fileB_ok q11, ⟨_, _, _, ho⟩, q12, su, top, q13, q14, q15⟩⟩
    · cases h9
  · cases e
end AX

set_option Elab.async false
set_option linter.all false
set_option maxRecDepth 100000
set_option maxHeartbeats 4000000
namespace AX
open PySem PySem.Spec PyProof.Rows L2
def topS (i : Nat) : Stmt := PySem.Challenge.pw_heldterms_k75_worlds_of_three_parts.main.body.getD i (.Pass ⟨0, 0, 0, 0⟩)
/-! ## data -/
/-- its type is known -/
def Tyd (h : AH) (d : D) : Prop := ∃ ty, tyD h d = some ty
def isNum : D → Bool
  | .int _ => true
  | _ => false
def isIdx : D → Bool
  | .int i => decide (0 ≤ i)
  | _ => false
/-- no refs within -/
def noRef : D → Bool
  | .ref _ => false
  | .tup xs => noRefs xs
  | _ => true
where noRefs : List D → Bool
  | [] => true
  | x :: xs => noRef x && noRefs xs
def rowForm : D → Bool
  | .tup [.tup xs, b] => isIdx b && xs.all isIdx
  | _ => false
def fnForm : D → Bool
  | .tup [.tup xs, b] => isIdx b && xs.all rowForm
  | _ => false
def idxs : D → Bool
  | .tup xs => xs.all isIdx
  | _ => false
def worldForm : D → Bool
  | .tup [a, b, c, d, .tup e] => isNum a && (idxs b && (idxs c && (idxs d && e.all fnForm)))
  | _ => false
abbrev Row := List Int × Int
abbrev Tab := List Row × Int
structure Fnc where
  f : Str
  p : Nat
  how : Str
structure Wld where
  many : Int
  letters : List Int
  inputs : List Int
  anys : List Int
  tabs : List Tab
structure Prg where
  fs : List Fnc
  letters : List Str
  vars : List Str
  inputs : List Str
def eI (ns : List Int) : D := .tup (ns.map D.int)
def eS (ns : List Str) : D := .tup (ns.map D.str)
def eRow (r : Row) : D := .tup [eI r.1, .int r.2]
def eTab (t : Tab) : D := .tup [.tup (t.1.map eRow), .int t.2]
def eFn (f : Fnc) : D := .tup [.str f.f, .int f.p, .str f.how]
def eW (w : Wld) : D := .tup [.int w.many, eI w.letters, eI w.inputs, eI w.anys, .tup (w.tabs.map eTab)]
def eP (p : Prg) : D := .tup [.tup (p.fs.map eFn), eS p.letters, eS p.vars, eS p.inputs, .tup [], .tup []]
/-! ## the program -/
def sp_is_number : ASp := fun ds h R _ => ∃ d, ds = [d] ∧ Tyd h d ∧ R (.bl (isNum d)) h
abbrev s_is_number : Stmt := topS 7
def N_is_number : List Str := ["thing"]
theorem sc_is_number : FnScope N_is_number ["thing"] (defScope s_is_number) := ⟨rfl, rfl, rfl, by decide +kernel, rfl, by decide +kernel, by decide +kernel⟩
def t_is_number : AS :=
  (aRet (aAndV (aIsi "int" (aVar 0)) (aNotV (aIsi "bool" (aVar 0)))))
theorem ok_is_number {gd : Prop} {P : Program} {w : World} {K : PySem.W.Frag} {mg : Str → Option Value} {base : Heap} {f : Addr} {fd : FuncData} (F : FnP K "is_number" s_is_number f fd) (z_isinstance : mg "isinstance" = none) (z_bool : mg "bool" = none) (z_int : mg "int" = none)
    (len : ∀ ds h R E, sp_is_number ds h R E → ds.length = 1) (pure_ : ∀ ds h R E, sp_is_number ds h R E → t_is_number { nx := fun _ h' => fgR R .non h', rt := fgR R } (astart N_is_number ds) h) :
    FnG gd P w K mg base 1 f fd ["thing"] (upSp P w K sp_is_number) := by
  refine afn (k := 0) F sc_is_number len fun cdv A outer s H W ds h R E hr hG hsp tk => ⟨t_is_number, ?_, pure_ ds h R E hsp⟩
  exact (b_one (s_ret (e_and (e_isi (.inl rfl) (e_var (pv 0)) (by rfl) z_isinstance (by rfl) z_int boot_int) (e_one (e_not (e_isi (.inr (.inl rfl)) (e_var (pv 0)) (by rfl) z_isinstance (by rfl) z_bool boot_bool))))))
def sp_is_index : ASp := fun ds h R _ => ∃ d, ds = [d] ∧ Tyd h d ∧ R (.bl (isIdx d)) h
abbrev s_is_index : Stmt := topS 8
def N_is_index : List Str := ["thing"]
theorem sc_is_index : FnScope N_is_index ["thing"] (defScope s_is_index) := ⟨rfl, rfl, rfl, by decide +kernel, rfl, by decide +kernel, by decide +kernel⟩
def t_is_index : AS :=
  (aRet (aAndV (aCall sp_is_number AX0 (aCons (aVar 0) aNil)) (aOp (rI2 (fun _ _ => True) fun i j => .bl (decide (j ≤ i))) (aVar 0) (aC (.int 0)))))
theorem ok_is_index {gd : Prop} {P : Program} {w : World} {K : PySem.W.Frag} {mg : Str → Option Value} {base : Heap} {f : Addr} {fd : FuncData} (F : FnP K "is_index" s_is_index f fd) (c_is_number : Cal gd P w K mg base 1 "is_number" ["thing"] sp_is_number)
    (len : ∀ ds h R E, sp_is_index ds h R E → ds.length = 1) (pure_ : ∀ ds h R E, sp_is_index ds h R E → t_is_index { nx := fun _ h' => fgR R .non h', rt := fgR R } (astart N_is_index ds) h) :
    FnG gd P w K mg base 2 f fd ["thing"] (upSp P w K sp_is_index) := by
  refine afn (k := 1) F sc_is_index len fun cdv A outer s H W ds h R E hr hG hsp tk => ⟨t_is_index, ?_, pure_ ds h R E hsp⟩
  exact (b_one (s_ret (e_and (e_cal c_is_number hr hG (by rfl) xpass0 (a_cons (e_var (pv 0)) a_nil)) (e_one (e_cmp o_geI (e_var (pv 0)) e_int (by first | exact nomark _ | rfl))))))
def sp_is_row_form : ASp := fun ds h R _ => ∃ d, ds = [d] ∧ noRef d = true ∧ R (.bl (rowForm d)) h
abbrev s_is_row_form : Stmt := topS 11
def N_is_row_form : List Str := ["thing", "one"]
theorem sc_is_row_form : FnScope N_is_row_form ["thing"] (defScope s_is_row_form) := ⟨rfl, rfl, rfl, by decide +kernel, rfl, by decide +kernel, by decide +kernel⟩
def SC_is_row_form_0r : Scope := { kind := .function, names := [ (PySem.Str.ofString ".0", PySem.NameKind.local), (PySem.Str.ofString "one", PySem.NameKind.local), (PySem.Str.ofString "is_index", PySem.NameKind.globalImplicit)], isGenerator := false, isCoroutine := false, more := [] }
def SC_is_row_form_0 : Scope := { kind := .function, names := [ (PySem.Str.ofString ".0", PySem.NameKind.local), (PySem.Str.ofString "one", PySem.NameKind.local), (PySem.Str.ofString "is_index", PySem.NameKind.globalImplicit)], isGenerator := false, isCoroutine := false, more := [] }
def t_is_row_form : AS :=
  (aSeq (aIfS (aOr (aNot (aTest (aIsi "tuple" (aVar 0)))) (aOr (aTest (aOp rNe (aCB cLen (aCons (aVar 0) aNil)) (aC (.int 2)))) (aOr (aNot (aTest (aIsi "tuple" (aOp rIx (aVar 0) (aC (.int 0)))))) (aNot (aTest (aCall sp_is_index AX0 (aCons (aOp rIx (aVar 0) (aC (.int 1))) aNil))))))) (aRet (aC (.bl false))) aNext)
    (aRet (aFg (aCB cAll (aCons (aLc (iSeq (aOp rIx (aVar 0) (aC (.int 0)))) (aName 1) aYes (aCall sp_is_index AX0 (aCons (aVar 1) aNil)) [1]) aNil)))))
theorem ok_is_row_form {gd : Prop} {P : Program} {w : World} {K : PySem.W.Frag} {mg : Str → Option Value} {base : Heap} {f : Addr} {fd : FuncData} (F : FnP K "is_row_form" s_is_row_form f fd) (c_is_index : Cal gd P w K mg base 2 "is_index" ["thing"] sp_is_index) (z_isinstance : mg "isinstance" = none) (z_tuple : mg "tuple" = none) (z_len : mg "len" = none) (z_all : mg "all" = none)
    (len : ∀ ds h R E, sp_is_row_form ds h R E → ds.length = 1) (pure_ : ∀ ds h R E, sp_is_row_form ds h R E → t_is_row_form { nx := fun _ h' => fgR R .non h', rt := fgR R } (astart N_is_row_form ds) h) :
    FnG gd P w K mg base 3 f fd ["thing"] (upSp P w K sp_is_row_form) := by
  refine afn (k := 2) F sc_is_row_form len fun cdv A outer s H W ds h R E hr hG hsp tk => ⟨t_is_row_form, ?_, pure_ ds h R E hsp⟩
  exact (b_cons (s_if (PW.pt (w_or (t_not (t_val (e_isi (.inr (.inr (.inr rfl))) (e_var (pv 0)) (by rfl) z_isinstance (by rfl) z_tuple boot_tuple) (by intro _; rfl))) (w_or (t_cmp (o_ne hr.units) (e_call call_len (by rfl) z_len boot_len (a_cons (e_var (pv 0)) a_nil)) e_int (by first | exact nomark _ | rfl)) (w_or (t_not (t_val (e_isi (.inr (.inr (.inr rfl))) (e_ix (e_var (pv 0)) e_int) (by rfl) z_isinstance (by rfl) z_tuple boot_tuple) (by intro _; rfl))) (w_or1 (t_not (t_val (e_cal c_is_index hr hG (by rfl) xpass0 (a_cons (e_ix (e_var (pv 0)) e_int) a_nil)) (by intro _; rfl)))))))) (b_one (s_ret e_bl)) b_nil)
    (b_one (s_ret (e_fg (e_call (call_all rfl) (by rfl) z_all boot_all (a_cons (e_lc (scope := SC_is_row_form_0) (own := [("one", 1)]) (us := [1]) (l := false) (g := (aName 1)) (tt := aYes) (by rfl) sc_is_row_form.nd (i_seq (e_ix (e_var (pv 0)) e_int)) (by exact blkOk_by (N := N_is_row_form) (sc := (defScope s_is_row_form)) (scope := SC_is_row_form_0) (own := [("one", 1)]) (by decide +kernel)) (fun _ _ _ _ _ => (g_name (i := 1) sc_is_row_form.nd rfl (by first | exact Or.inl rfl | exact Or.inr rfl))) (fun _ _ _ _ _ => ts_nil) (fun _ _ _ _ _ => (e_cal c_is_index hr hG (by rfl) xpass0 (a_cons (e_var (pv 1)) a_nil))) (by decide)) a_nil))))))
def sp_is_function_form : ASp := fun ds h R _ => ∃ d, ds = [d] ∧ noRef d = true ∧ R (.bl (fnForm d)) h
abbrev s_is_function_form : Stmt := topS 12
def N_is_function_form : List Str := ["thing", "row"]
theorem sc_is_function_form : FnScope N_is_function_form ["thing"] (defScope s_is_function_form) := ⟨rfl, rfl, rfl, by decide +kernel, rfl, by decide +kernel, by decide +kernel⟩
def SC_is_function_form_0r : Scope := { kind := .function, names := [ (PySem.Str.ofString ".0", PySem.NameKind.local), (PySem.Str.ofString "row", PySem.NameKind.local), (PySem.Str.ofString "is_row_form", PySem.NameKind.globalImplicit)], isGenerator := false, isCoroutine := false, more := [] }
def SC_is_function_form_0 : Scope := { kind := .function, names := [ (PySem.Str.ofString ".0", PySem.NameKind.local), (PySem.Str.ofString "row", PySem.NameKind.local), (PySem.Str.ofString "is_row_form", PySem.NameKind.globalImplicit)], isGenerator := false, isCoroutine := false, more := [] }
def t_is_function_form : AS :=
  (aSeq (aIfS (aOr (aNot (aTest (aIsi "tuple" (aVar 0)))) (aOr (aTest (aOp rNe (aCB cLen (aCons (aVar 0) aNil)) (aC (.int 2)))) (aOr (aNot (aTest (aIsi "tuple" (aOp rIx (aVar 0) (aC (.int 0)))))) (aNot (aTest (aCall sp_is_index AX0 (aCons (aOp rIx (aVar 0) (aC (.int 1))) aNil))))))) (aRet (aC (.bl false))) aNext)
    (aRet (aFg (aCB cAll (aCons (aLc (iSeq (aOp rIx (aVar 0) (aC (.int 0)))) (aName 1) aYes (aCall sp_is_row_form AX0 (aCons (aVar 1) aNil)) [1]) aNil)))))
theorem ok_is_function_form {gd : Prop} {P : Program} {w : World} {K : PySem.W.Frag} {mg : Str → Option Value} {base : Heap} {f : Addr} {fd : FuncData} (F : FnP K "is_function_form" s_is_function_form f fd) (c_is_index : Cal gd P w K mg base 2 "is_index" ["thing"] sp_is_index) (c_is_row_form : Cal gd P w K mg base 3 "is_row_form" ["thing"] sp_is_row_form) (z_isinstance : mg "isinstance" = none) (z_tuple : mg "tuple" = none) (z_len : mg "len" = none) (z_all : mg "all" = none)
    (len : ∀ ds h R E, sp_is_function_form ds h R E → ds.length = 1) (pure_ : ∀ ds h R E, sp_is_function_form ds h R E → t_is_function_form { nx := fun _ h' => fgR R .non h', rt := fgR R } (astart N_is_function_form ds) h) :
    FnG gd P w K mg base 4 f fd ["thing"] (upSp P w K sp_is_function_form) := by
  refine afn (k := 3) F sc_is_function_form len fun cdv A outer s H W ds h R E hr hG hsp tk => ⟨t_is_function_form, ?_, pure_ ds h R E hsp⟩
  exact (b_cons (s_if (PW.pt (w_or (t_not (t_val (e_isi (.inr (.inr (.inr rfl))) (e_var (pv 0)) (by rfl) z_isinstance (by rfl) z_tuple boot_tuple) (by intro _; rfl))) (w_or (t_cmp (o_ne hr.units) (e_call call_len (by rfl) z_len boot_len (a_cons (e_var (pv 0)) a_nil)) e_int (by first | exact nomark _ | rfl)) (w_or (t_not (t_val (e_isi (.inr (.inr (.inr rfl))) (e_ix (e_var (pv 0)) e_int) (by rfl) z_isinstance (by rfl) z_tuple boot_tuple) (by intro _; rfl))) (w_or1 (t_not (t_val (e_cal c_is_index hr hG (by rfl) xpass0 (a_cons (e_ix (e_var (pv 0)) e_int) a_nil)) (by intro _; rfl)))))))) (b_one (s_ret e_bl)) b_nil)
    (b_one (s_ret (e_fg (e_call (call_all rfl) (by rfl) z_all boot_all (a_cons (e_lc (scope := SC_is_function_form_0) (own := [("row", 1)]) (us := [1]) (l := false) (g := (aName 1)) (tt := aYes) (by rfl) sc_is_function_form.nd (i_seq (e_ix (e_var (pv 0)) e_int)) (by exact blkOk_by (N := N_is_function_form) (sc := (defScope s_is_function_form)) (scope := SC_is_function_form_0) (own := [("row", 1)]) (by decide +kernel)) (fun _ _ _ _ _ => (g_name (i := 1) sc_is_function_form.nd rfl (by first | exact Or.inl rfl | exact Or.inr rfl))) (fun _ _ _ _ _ => ts_nil) (fun _ _ _ _ _ => (e_cal c_is_row_form hr hG (by rfl) xpass0 (a_cons (e_var (pv 1)) a_nil))) (by decide)) a_nil))))))
def sp_are_indexes : ASp := fun ds h R _ => ∃ d, ds = [d] ∧ (noRef d = true ∨ (Tyd h d ∧ ∃ a, d = .ref a)) ∧ R (.bl (idxs d)) h
abbrev s_are_indexes : Stmt := topS 13
def N_are_indexes : List Str := ["thing", "one"]
theorem sc_are_indexes : FnScope N_are_indexes ["thing"] (defScope s_are_indexes) := ⟨rfl, rfl, rfl, by decide +kernel, rfl, by decide +kernel, by decide +kernel⟩
def SC_are_indexes_0r : Scope := { kind := .function, names := [ (PySem.Str.ofString ".0", PySem.NameKind.local), (PySem.Str.ofString "one", PySem.NameKind.local), (PySem.Str.ofString "is_index", PySem.NameKind.globalImplicit)], isGenerator := false, isCoroutine := false, more := [] }
def SC_are_indexes_0 : Scope := { kind := .function, names := [ (PySem.Str.ofString ".0", PySem.NameKind.local), (PySem.Str.ofString "one", PySem.NameKind.local), (PySem.Str.ofString "is_index", PySem.NameKind.globalImplicit)], isGenerator := false, isCoroutine := false, more := [] }
def t_are_indexes : AS :=
  (aRet (aAndV (aIsi "tuple" (aVar 0)) (aFg (aCB cAll (aCons (aLc (iSeq (aVar 0)) (aName 1) aYes (aCall sp_is_index AX0 (aCons (aVar 1) aNil)) [1]) aNil)))))
theorem ok_are_indexes {gd : Prop} {P : Program} {w : World} {K : PySem.W.Frag} {mg : Str → Option Value} {base : Heap} {f : Addr} {fd : FuncData} (F : FnP K "are_indexes" s_are_indexes f fd) (c_is_index : Cal gd P w K mg base 2 "is_index" ["thing"] sp_is_index) (z_all : mg "all" = none) (z_isinstance : mg "isinstance" = none) (z_tuple : mg "tuple" = none)
    (len : ∀ ds h R E, sp_are_indexes ds h R E → ds.length = 1) (pure_ : ∀ ds h R E, sp_are_indexes ds h R E → t_are_indexes { nx := fun _ h' => fgR R .non h', rt := fgR R } (astart N_are_indexes ds) h) :
    FnG gd P w K mg base 3 f fd ["thing"] (upSp P w K sp_are_indexes) := by
  refine afn (k := 2) F sc_are_indexes len fun cdv A outer s H W ds h R E hr hG hsp tk => ⟨t_are_indexes, ?_, pure_ ds h R E hsp⟩
  exact (b_one (s_ret (e_and (e_isi (.inr (.inr (.inr rfl))) (e_var (pv 0)) (by rfl) z_isinstance (by rfl) z_tuple boot_tuple) (e_one (e_fg (e_call (call_all rfl) (by rfl) z_all boot_all (a_cons (e_lc (scope := SC_are_indexes_0) (own := [("one", 1)]) (us := [1]) (l := false) (g := (aName 1)) (tt := aYes) (by rfl) sc_are_indexes.nd (i_seq (e_var (pv 0))) (by exact blkOk_by (N := N_are_indexes) (sc := (defScope s_are_indexes)) (scope := SC_are_indexes_0) (own := [("one", 1)]) (by decide +kernel)) (fun _ _ _ _ _ => (g_name (i := 1) sc_are_indexes.nd rfl (by first | exact Or.inl rfl | exact Or.inr rfl))) (fun _ _ _ _ _ => ts_nil) (fun _ _ _ _ _ => (e_cal c_is_index hr hG (by rfl) xpass0 (a_cons (e_var (pv 1)) a_nil))) (by decide)) a_nil)))))))
def sp_is_world_form : ASp := fun ds h R _ => ∃ d, ds = [d] ∧ (noRef d = true ∨ (Tyd h d ∧ ∃ a, d = .ref a)) ∧ R (.bl (worldForm d)) h
abbrev s_is_world_form : Stmt := topS 14
def N_is_world_form : List Str := ["thing", "part", "one"]
theorem sc_is_world_form : FnScope N_is_world_form ["thing"] (defScope s_is_world_form) := ⟨rfl, rfl, rfl, by decide +kernel, rfl, by decide +kernel, by decide +kernel⟩
def SC_is_world_form_0r : Scope := { kind := .function, names := [ (PySem.Str.ofString ".0", PySem.NameKind.local), (PySem.Str.ofString "part", PySem.NameKind.local), (PySem.Str.ofString "are_indexes", PySem.NameKind.globalImplicit)], isGenerator := false, isCoroutine := false, more := [] }
def SC_is_world_form_0 : Scope := { kind := .function, names := [ (PySem.Str.ofString ".0", PySem.NameKind.local), (PySem.Str.ofString "part", PySem.NameKind.local), (PySem.Str.ofString "are_indexes", PySem.NameKind.globalImplicit)], isGenerator := false, isCoroutine := false, more := [] }
def SC_is_world_form_1r : Scope := { kind := .function, names := [ (PySem.Str.ofString ".0", PySem.NameKind.local), (PySem.Str.ofString "one", PySem.NameKind.local), (PySem.Str.ofString "is_function_form", PySem.NameKind.globalImplicit)], isGenerator := false, isCoroutine := false, more := [] }
def SC_is_world_form_1 : Scope := { kind := .function, names := [ (PySem.Str.ofString ".0", PySem.NameKind.local), (PySem.Str.ofString "one", PySem.NameKind.local), (PySem.Str.ofString "is_function_form", PySem.NameKind.globalImplicit)], isGenerator := false, isCoroutine := false, more := [] }
def t_is_world_form : AS :=
  (aSeq (aIfS (aOr (aNot (aTest (aIsi "tuple" (aVar 0)))) (aOr (aTest (aOp rNe (aCB cLen (aCons (aVar 0) aNil)) (aC (.int 5)))) (aNot (aTest (aCall sp_is_number AX0 (aCons (aOp rIx (aVar 0) (aC (.int 0))) aNil)))))) (aRet (aC (.bl false))) aNext)
    (aSeq (aIfS (aOr (aNot (aTest (aFg (aCB cAll (aCons (aLc (iSeq (aSl (aVar 0) (aPart (aC (.int 1))) (aPart (aC (.int 4))))) (aName 1) aYes (aCall sp_are_indexes AX0 (aCons (aVar 1) aNil)) [1]) aNil))))) (aNot (aTest (aIsi "tuple" (aOp rIx (aVar 0) (aC (.int 4))))))) (aRet (aC (.bl false))) aNext)
    (aRet (aFg (aCB cAll (aCons (aLc (iSeq (aOp rIx (aVar 0) (aC (.int 4)))) (aName 2) aYes (aCall sp_is_function_form AX0 (aCons (aVar 2) aNil)) [2]) aNil))))))
theorem ok_is_world_form {gd : Prop} {P : Program} {w : World} {K : PySem.W.Frag} {mg : Str → Option Value} {base : Heap} {f : Addr} {fd : FuncData} (F : FnP K "is_world_form" s_is_world_form f fd) (c_is_number : Cal gd P w K mg base 1 "is_number" ["thing"] sp_is_number) (c_are_indexes : Cal gd P w K mg base 3 "are_indexes" ["thing"] sp_are_indexes) (c_is_function_form : Cal gd P w K mg base 4 "is_function_form" ["thing"] sp_is_function_form) (z_isinstance : mg "isinstance" = none) (z_tuple : mg "tuple" = none) (z_len : mg "len" = none) (z_all : mg "all" = none)
    (len : ∀ ds h R E, sp_is_world_form ds h R E → ds.length = 1) (pure_ : ∀ ds h R E, sp_is_world_form ds h R E → t_is_world_form { nx := fun _ h' => fgR R .non h', rt := fgR R } (astart N_is_world_form ds) h) :
    FnG gd P w K mg base 5 f fd ["thing"] (upSp P w K sp_is_world_form) := by
  refine afn (k := 4) F sc_is_world_form len fun cdv A outer s H W ds h R E hr hG hsp tk => ⟨t_is_world_form, ?_, pure_ ds h R E hsp⟩
  exact (b_cons (s_if (PW.pt (w_or (t_not (t_val (e_isi (.inr (.inr (.inr rfl))) (e_var (pv 0)) (by rfl) z_isinstance (by rfl) z_tuple boot_tuple) (by intro _; rfl))) (w_or (t_cmp (o_ne hr.units) (e_call call_len (by rfl) z_len boot_len (a_cons (e_var (pv 0)) a_nil)) e_int (by first | exact nomark _ | rfl)) (w_or1 (t_not (t_val (e_cal c_is_number hr hG (by rfl) xpass0 (a_cons (e_ix (e_var (pv 0)) e_int) a_nil)) (by intro _; rfl))))))) (b_one (s_ret e_bl)) b_nil)
    (b_cons (s_if (PW.pt (w_or (t_not (t_val (e_fg (e_call (call_all rfl) (by rfl) z_all boot_all (a_cons (e_lc (scope := SC_is_world_form_0) (own := [("part", 1)]) (us := [1]) (l := false) (g := (aName 1)) (tt := aYes) (by rfl) sc_is_world_form.nd (i_seq (e_sl (e_var (pv 0)) (p_some e_int) (p_some e_int))) (by exact blkOk_by (N := N_is_world_form) (sc := (defScope s_is_world_form)) (scope := SC_is_world_form_0) (own := [("part", 1)]) (by decide +kernel)) (fun _ _ _ _ _ => (g_name (i := 1) sc_is_world_form.nd rfl (by first | exact Or.inl rfl | exact Or.inr rfl))) (fun _ _ _ _ _ => ts_nil) (fun _ _ _ _ _ => (e_cal c_are_indexes hr hG (by rfl) xpass0 (a_cons (e_var (pv 1)) a_nil))) (by decide)) a_nil))) (by intro _; rfl))) (w_or1 (t_not (t_val (e_isi (.inr (.inr (.inr rfl))) (e_ix (e_var (pv 0)) e_int) (by rfl) z_isinstance (by rfl) z_tuple boot_tuple) (by intro _; rfl)))))) (b_one (s_ret e_bl)) b_nil)
    (b_one (s_ret (e_fg (e_call (call_all rfl) (by rfl) z_all boot_all (a_cons (e_lc (scope := SC_is_world_form_1) (own := [("one", 2)]) (us := [2]) (l := false) (g := (aName 2)) (tt := aYes) (by rfl) sc_is_world_form.nd (i_seq (e_ix (e_var (pv 0)) e_int)) (by exact blkOk_by (N := N_is_world_form) (sc := (defScope s_is_world_form)) (scope := SC_is_world_form_1) (own := [("one", 2)]) (by decide +kernel)) (fun _ _ _ _ _ => (g_name (i := 2) sc_is_world_form.nd rfl (by first | exact Or.inl rfl | exact Or.inr rfl))) (fun _ _ _ _ _ => ts_nil) (fun _ _ _ _ _ => (e_cal c_is_function_form hr hG (by rfl) xpass0 (a_cons (e_var (pv 2)) a_nil))) (by decide)) a_nil)))))))
def sp_are_below : ASp := fun ds h R _ => ∃ (ns : List Int) (m : Int), ds = [eI ns, .int m] ∧ R (.bl (ns.all fun n => decide (n < m))) h
abbrev s_are_below : Stmt := topS 15
def N_are_below : List Str := ["worths", "many", "worth"]
theorem sc_are_below : FnScope N_are_below ["worths", "many"] (defScope s_are_below) := ⟨rfl, rfl, rfl, by decide +kernel, rfl, by decide +kernel, by decide +kernel⟩
def SC_are_below_0r : Scope := { kind := .function, names := [ (PySem.Str.ofString ".0", PySem.NameKind.local), (PySem.Str.ofString "worth", PySem.NameKind.local), (PySem.Str.ofString "many", PySem.NameKind.cell)], isGenerator := false, isCoroutine := false, more := [] }
def SC_are_below_0 : Scope := { kind := .function, names := [ (PySem.Str.ofString ".0", PySem.NameKind.local), (PySem.Str.ofString "worth", PySem.NameKind.local), (PySem.Str.ofString "many", PySem.NameKind.free)], isGenerator := false, isCoroutine := false, more := [] }
def t_are_below : AS :=
  (aRet (aFg (aCB cAll (aCons (aLc (iSeq (aVar 0)) (aName 2) aYes (aOp rLt (aVar 2) (aVar 1)) [2]) aNil))))
theorem ok_are_below {gd : Prop} {P : Program} {w : World} {K : PySem.W.Frag} {mg : Str → Option Value} {base : Heap} {f : Addr} {fd : FuncData} (F : FnP K "are_below" s_are_below f fd) (z_all : mg "all" = none)
    (len : ∀ ds h R E, sp_are_below ds h R E → ds.length = 2) (pure_ : ∀ ds h R E, sp_are_below ds h R E → t_are_below { nx := fun _ h' => fgR R .non h', rt := fgR R } (astart N_are_below ds) h) :
    FnG gd P w K mg base 1 f fd ["worths", "many"] (upSp P w K sp_are_below) := by
  refine afn (k := 0) F sc_are_below len fun cdv A outer s H W ds h R E hr hG hsp tk => ⟨t_are_below, ?_, pure_ ds h R E hsp⟩
  exact (b_one (s_ret (e_fg (e_call (call_all rfl) (by rfl) z_all boot_all (a_cons (e_lc (scope := SC_are_below_0) (own := [("worth", 2)]) (us := [2]) (l := false) (g := (aName 2)) (tt := aYes) (by rfl) sc_are_below.nd (i_seq (e_var (pv 0))) (by exact blkOk_by (N := N_are_below) (sc := (defScope s_are_below)) (scope := SC_are_below_0) (own := [("worth", 2)]) (by decide +kernel)) (fun _ _ _ _ _ => (g_name (i := 2) sc_are_below.nd rfl (by first | exact Or.inl rfl | exact Or.inr rfl))) (fun _ _ _ _ _ => ts_nil) (fun _ _ _ _ _ => (e_cmp (o_lt hr.units0) (e_var (pv 2)) (e_var (pv 1)) (by first | exact nomark _ | rfl))) (by decide)) a_nil)))))
def rightRow (f : Fnc) (m : Int) (r : Row) : Bool := if (r.1.length : Int) ≠ f.p ∨ ¬ (r.1.all fun n => decide (n < m)) = true ∨ m ≤ r.2 then false else decide (f.how ≠ "either") || decide (r.1.getD 0 0 ≤ r.1.getD 1 0)
def FOk (f : Fnc) : Prop := (f.how = "either" → f.p = 2) ∧ PyData.strOk f.how = true ∧ PyData.strOk f.f = true
def sp_is_right_row : ASp := fun ds h R _ => ∃ f m r, ds = [eFn f, .int m, eRow r] ∧ FOk f ∧ R (.bl (rightRow f m r)) h
abbrev s_is_right_row : Stmt := topS 16
def N_is_right_row : List Str := ["function", "many", "row", "key", "worth"]
theorem sc_is_right_row : FnScope N_is_right_row ["function", "many", "row"] (defScope s_is_right_row) := ⟨rfl, rfl, rfl, by decide +kernel, rfl, by decide +kernel, by decide +kernel⟩
def t_is_right_row : AS :=
  (aSeq (aAsg (aVar 2) (aGTup 2 (aGCons (aName 3) (aGCons (aName 4) aGNil))))
    (aSeq (aIfS (aOr (aTest (aOp rNe (aCB cLen (aCons (aVar 3) aNil)) (aOp rIx (aVar 0) (aC (.int 1))))) (aOr (aNot (aTest (aCall sp_are_below AX0 (aCons (aVar 3) (aCons (aVar 1) aNil))))) (aTest (aOp (rI2 (fun _ _ => True) fun i j => .bl (decide (j ≤ i))) (aVar 4) (aVar 1))))) (aRet (aC (.bl false))) aNext)
    (aRet (aOrV (aOp rNe (aOp rIx (aVar 0) (aC (.int 2))) (aC (.str "either"))) (aOp (rI2 (fun _ _ => True) fun i j => .bl (decide (i ≤ j))) (aOp rIx (aVar 3) (aC (.int 0))) (aOp rIx (aVar 3) (aC (.int 1))))))))
theorem ok_is_right_row {gd : Prop} {P : Program} {w : World} {K : PySem.W.Frag} {mg : Str → Option Value} {base : Heap} {f : Addr} {fd : FuncData} (F : FnP K "is_right_row" s_is_right_row f fd) (c_are_below : Cal gd P w K mg base 1 "are_below" ["worths", "many"] sp_are_below) (z_len : mg "len" = none)
    (len : ∀ ds h R E, sp_is_right_row ds h R E → ds.length = 3) (pure_ : ∀ ds h R E, sp_is_right_row ds h R E → t_is_right_row { nx := fun _ h' => fgR R .non h', rt := fgR R } (astart N_is_right_row ds) h) :
    FnG gd P w K mg base 2 f fd ["function", "many", "row"] (upSp P w K sp_is_right_row) := by
  refine afn (k := 1) F sc_is_right_row len fun cdv A outer s H W ds h R E hr hG hsp tk => ⟨t_is_right_row, ?_, pure_ ds h R E hsp⟩
  exact (b_cons (s_asg (e_var (pv 2)) (g_tup (by rfl) (gs_cons (g_name (i := 3) sc_is_right_row.nd rfl (by first | exact Or.inl rfl | exact Or.inr rfl)) (gs_cons (g_name (i := 4) sc_is_right_row.nd rfl (by first | exact Or.inl rfl | exact Or.inr rfl)) gs_nil))))
    (b_cons (s_if (PW.pt (w_or (t_cmp (o_ne hr.units) (e_call call_len (by rfl) z_len boot_len (a_cons (e_var (pv 3)) a_nil)) (e_ix (e_var (pv 0)) e_int) (by first | exact nomark _ | rfl)) (w_or (t_not (t_val (e_cal c_are_below hr hG (by rfl) xpass0 (a_cons (e_var (pv 3)) (a_cons (e_var (pv 1)) a_nil))) (by intro _; rfl))) (w_or1 (t_cmp o_geI (e_var (pv 4)) (e_var (pv 1)) (by first | exact nomark _ | rfl)))))) (b_one (s_ret e_bl)) b_nil)
    (b_one (s_ret (e_or (e_cmp (o_ne hr.units) (e_ix (e_var (pv 0)) e_int) e_str (by first | exact nomark _ | rfl)) (e_one (e_cmp o_leI (e_ix (e_var (pv 3)) e_int) (e_ix (e_var (pv 3)) e_int) (by first | exact nomark _ | rfl))))))))
def rising : List Row → Bool
  | a :: b :: r => HT.lexLt a.1 b.1 && rising (b :: r)
  | _ => true
def rightFn (f : Fnc) (m : Int) (t : Tab) : Bool := if m ≤ t.2 ∨ ¬ (t.1.all (rightRow f m)) = true then false else rising t.1
def sp_is_right_function : ASp := fun ds h R _ => ∃ f m t, ds = [eFn f, .int m, eTab t] ∧ FOk f ∧ R (.bl (rightFn f m t)) h
abbrev s_is_right_function : Stmt := topS 17
def N_is_right_function : List Str := ["function", "many", "told", "rows", "rest", "row", "one", "other"]
theorem sc_is_right_function : FnScope N_is_right_function ["function", "many", "told"] (defScope s_is_right_function) := ⟨rfl, rfl, rfl, by decide +kernel, rfl, by decide +kernel, by decide +kernel⟩
def SC_is_right_function_0r : Scope := { kind := .function, names := [ (PySem.Str.ofString ".0", PySem.NameKind.local), (PySem.Str.ofString "row", PySem.NameKind.local), (PySem.Str.ofString "is_right_row", PySem.NameKind.globalImplicit), (PySem.Str.ofString "function", PySem.NameKind.cell), (PySem.Str.ofString "many", PySem.NameKind.cell)], isGenerator := false, isCoroutine := false, more := [] }
def SC_is_right_function_0 : Scope := { kind := .function, names := [ (PySem.Str.ofString ".0", PySem.NameKind.local), (PySem.Str.ofString "row", PySem.NameKind.local), (PySem.Str.ofString "is_right_row", PySem.NameKind.globalImplicit), (PySem.Str.ofString "function", PySem.NameKind.free), (PySem.Str.ofString "many", PySem.NameKind.free)], isGenerator := false, isCoroutine := false, more := [] }
def SC_is_right_function_1r : Scope := { kind := .function, names := [ (PySem.Str.ofString ".0", PySem.NameKind.local), (PySem.Str.ofString "one", PySem.NameKind.local), (PySem.Str.ofString "other", PySem.NameKind.local)], isGenerator := false, isCoroutine := false, more := [] }
def SC_is_right_function_1 : Scope := { kind := .function, names := [ (PySem.Str.ofString ".0", PySem.NameKind.local), (PySem.Str.ofString "one", PySem.NameKind.local), (PySem.Str.ofString "other", PySem.NameKind.local)], isGenerator := false, isCoroutine := false, more := [] }
def t_is_right_function : AS :=
  (aSeq (aAsg (aVar 2) (aGTup 2 (aGCons (aName 3) (aGCons (aName 4) aGNil))))
    (aSeq (aIfS (aOr (aTest (aOp (rI2 (fun _ _ => True) fun i j => .bl (decide (j ≤ i))) (aVar 4) (aVar 1))) (aNot (aTest (aFg (aCB cAll (aCons (aLc (iSeq (aVar 3)) (aName 5) aYes (aCall sp_is_right_row AX0 (aCons (aVar 0) (aCons (aVar 1) (aCons (aVar 5) aNil)))) [5]) aNil)))))) (aRet (aC (.bl false))) aNext)
    (aRet (aFg (aCB cAll (aCons (aLc (iZip2 (aCons (aVar 3) (aCons (aSl (aVar 3) (aPart (aC (.int 1))) aNoPart) aNil))) (aGTup 2 (aGCons (aName 6) (aGCons (aName 7) aGNil))) aYes (aOp rLt (aOp rIx (aVar 6) (aC (.int 0))) (aOp rIx (aVar 7) (aC (.int 0)))) [6, 7]) aNil))))))
theorem ok_is_right_function {gd : Prop} {P : Program} {w : World} {K : PySem.W.Frag} {mg : Str → Option Value} {base : Heap} {f : Addr} {fd : FuncData} (F : FnP K "is_right_function" s_is_right_function f fd) (c_is_right_row : Cal gd P w K mg base 2 "is_right_row" ["function", "many", "row"] sp_is_right_row) (z_all : mg "all" = none) (z_zip : mg "zip" = none)
    (len : ∀ ds h R E, sp_is_right_function ds h R E → ds.length = 3) (pure_ : ∀ ds h R E, sp_is_right_function ds h R E → t_is_right_function { nx := fun _ h' => fgR R .non h', rt := fgR R } (astart N_is_right_function ds) h) :
    FnG gd P w K mg base 3 f fd ["function", "many", "told"] (upSp P w K sp_is_right_function) := by
  refine afn (k := 2) F sc_is_right_function len fun cdv A outer s H W ds h R E hr hG hsp tk => ⟨t_is_right_function, ?_, pure_ ds h R E hsp⟩
  exact (b_cons (s_asg (e_var (pv 2)) (g_tup (by rfl) (gs_cons (g_name (i := 3) sc_is_right_function.nd rfl (by first | exact Or.inl rfl | exact Or.inr rfl)) (gs_cons (g_name (i := 4) sc_is_right_function.nd rfl (by first | exact Or.inl rfl | exact Or.inr rfl)) gs_nil))))
    (b_cons (s_if (PW.pt (w_or (t_cmp o_geI (e_var (pv 4)) (e_var (pv 1)) (by first | exact nomark _ | rfl)) (w_or1 (t_not (t_val (e_fg (e_call (call_all rfl) (by rfl) z_all boot_all (a_cons (e_lc (scope := SC_is_right_function_0) (own := [("row", 5)]) (us := [5]) (l := false) (g := (aName 5)) (tt := aYes) (by rfl) sc_is_right_function.nd (i_seq (e_var (pv 3))) (by exact blkOk_by (N := N_is_right_function) (sc := (defScope s_is_right_function)) (scope := SC_is_right_function_0) (own := [("row", 5)]) (by decide +kernel)) (fun _ _ _ _ _ => (g_name (i := 5) sc_is_right_function.nd rfl (by first | exact Or.inl rfl | exact Or.inr rfl))) (fun _ _ _ _ _ => ts_nil) (fun _ _ _ _ _ => (e_cal c_is_right_row hr hG (by rfl) xpass0 (a_cons (e_var (pv 0)) (a_cons (e_var (pv 1)) (a_cons (e_var (pv 5)) a_nil))))) (by decide)) a_nil))) (by intro _; rfl)))))) (b_one (s_ret e_bl)) b_nil)
    (b_one (s_ret (e_fg (e_call (call_all rfl) (by rfl) z_all boot_all (a_cons (e_lc (scope := SC_is_right_function_1) (own := [("one", 6), ("other", 7)]) (us := [6, 7]) (l := true) (g := (aGTup 2 (aGCons (aName 6) (aGCons (aName 7) aGNil)))) (tt := aYes) (by rfl) sc_is_right_function.nd (i_zip (by rfl) z_zip (a_cons (e_var (pv 3)) (a_cons (e_sl (e_var (pv 3)) (p_some e_int) p_none) a_nil))) (by exact blkOk_by (N := N_is_right_function) (sc := (defScope s_is_right_function)) (scope := SC_is_right_function_1) (own := [("one", 6), ("other", 7)]) (by decide +kernel)) (fun _ _ _ _ _ => (g_tup (by rfl) (gs_cons (g_name (i := 6) sc_is_right_function.nd rfl (by first | exact Or.inl rfl | exact Or.inr rfl)) (gs_cons (g_name (i := 7) sc_is_right_function.nd rfl (by first | exact Or.inl rfl | exact Or.inr rfl)) gs_nil)))) (fun _ _ _ _ _ => ts_nil) (fun _ _ _ _ _ => (e_cmp (o_lt hr.units0) (e_ix (e_var (pv 6)) e_int) (e_ix (e_var (pv 7)) e_int) (by first | exact nomark _ | rfl))) (by decide)) a_nil)))))))
def rightFns (fs : List Fnc) (m : Int) (ts : List Tab) : Bool := if ts.length ≠ fs.length then false else (fs.zip ts).all fun p => rightFn p.1 m p.2
def sp_are_right_functions : ASp := fun ds h R _ => ∃ P m ts, ds = [eP P, .int m, .tup (ts.map eTab)] ∧ (∀ f ∈ P.fs, FOk f) ∧ R (.bl (rightFns P.fs m ts)) h
abbrev s_are_right_functions : Stmt := topS 18
def N_are_right_functions : List Str := ["program", "many", "functions", "one", "told"]
theorem sc_are_right_functions : FnScope N_are_right_functions ["program", "many", "functions"] (defScope s_are_right_functions) := ⟨rfl, rfl, rfl, by decide +kernel, rfl, by decide +kernel, by decide +kernel⟩
def SC_are_right_functions_0r : Scope := { kind := .function, names := [ (PySem.Str.ofString ".0", PySem.NameKind.local), (PySem.Str.ofString "one", PySem.NameKind.local), (PySem.Str.ofString "told", PySem.NameKind.local), (PySem.Str.ofString "is_right_function", PySem.NameKind.globalImplicit), (PySem.Str.ofString "many", PySem.NameKind.cell)], isGenerator := false, isCoroutine := false, more := [] }
def SC_are_right_functions_0 : Scope := { kind := .function, names := [ (PySem.Str.ofString ".0", PySem.NameKind.local), (PySem.Str.ofString "one", PySem.NameKind.local), (PySem.Str.ofString "told", PySem.NameKind.local), (PySem.Str.ofString "is_right_function", PySem.NameKind.globalImplicit), (PySem.Str.ofString "many", PySem.NameKind.free)], isGenerator := false, isCoroutine := false, more := [] }
def t_are_right_functions : AS :=
  (aSeq (aIfS (aTest (aOp rNe (aCB cLen (aCons (aVar 2) aNil)) (aCB cLen (aCons (aOp rIx (aVar 0) (aC (.int 0))) aNil)))) (aRet (aC (.bl false))) aNext)
    (aRet (aFg (aCB cAll (aCons (aLc (iZip2 (aCons (aOp rIx (aVar 0) (aC (.int 0))) (aCons (aVar 2) aNil))) (aGTup 2 (aGCons (aName 3) (aGCons (aName 4) aGNil))) aYes (aCall sp_is_right_function AX0 (aCons (aVar 3) (aCons (aVar 1) (aCons (aVar 4) aNil)))) [3, 4]) aNil)))))
theorem ok_are_right_functions {gd : Prop} {P : Program} {w : World} {K : PySem.W.Frag} {mg : Str → Option Value} {base : Heap} {f : Addr} {fd : FuncData} (F : FnP K "are_right_functions" s_are_right_functions f fd) (c_is_right_function : Cal gd P w K mg base 3 "is_right_function" ["function", "many", "told"] sp_is_right_function) (z_len : mg "len" = none) (z_all : mg "all" = none) (z_zip : mg "zip" = none)
    (len : ∀ ds h R E, sp_are_right_functions ds h R E → ds.length = 3) (pure_ : ∀ ds h R E, sp_are_right_functions ds h R E → t_are_right_functions { nx := fun _ h' => fgR R .non h', rt := fgR R } (astart N_are_right_functions ds) h) :
    FnG gd P w K mg base 4 f fd ["program", "many", "functions"] (upSp P w K sp_are_right_functions) := by
  refine afn (k := 3) F sc_are_right_functions len fun cdv A outer s H W ds h R E hr hG hsp tk => ⟨t_are_right_functions, ?_, pure_ ds h R E hsp⟩
  exact (b_cons (s_if (t_cmp (o_ne hr.units) (e_call call_len (by rfl) z_len boot_len (a_cons (e_var (pv 2)) a_nil)) (e_call call_len (by rfl) z_len boot_len (a_cons (e_ix (e_var (pv 0)) e_int) a_nil)) (by first | exact nomark _ | rfl)) (b_one (s_ret e_bl)) b_nil)
    (b_one (s_ret (e_fg (e_call (call_all rfl) (by rfl) z_all boot_all (a_cons (e_lc (scope := SC_are_right_functions_0) (own := [("one", 3), ("told", 4)]) (us := [3, 4]) (l := true) (g := (aGTup 2 (aGCons (aName 3) (aGCons (aName 4) aGNil)))) (tt := aYes) (by rfl) sc_are_right_functions.nd (i_zip (by rfl) z_zip (a_cons (e_ix (e_var (pv 0)) e_int) (a_cons (e_var (pv 2)) a_nil))) (by exact blkOk_by (N := N_are_right_functions) (sc := (defScope s_are_right_functions)) (scope := SC_are_right_functions_0) (own := [("one", 3), ("told", 4)]) (by decide +kernel)) (fun _ _ _ _ _ => (g_tup (by rfl) (gs_cons (g_name (i := 3) sc_are_right_functions.nd rfl (by first | exact Or.inl rfl | exact Or.inr rfl)) (gs_cons (g_name (i := 4) sc_are_right_functions.nd rfl (by first | exact Or.inl rfl | exact Or.inr rfl)) gs_nil)))) (fun _ _ _ _ _ => ts_nil) (fun _ _ _ _ _ => (e_cal c_is_right_function hr hG (by rfl) xpass0 (a_cons (e_var (pv 3)) (a_cons (e_var (pv 1)) (a_cons (e_var (pv 4)) a_nil))))) (by decide)) a_nil))))))
def worldFault (P : Prg) (w : Wld) : Option Str :=
  if w.many < 1 then some "many" else
  if ¬ (w.letters.length = P.letters.length ∧ w.letters.Nodup) ∨ ¬ (w.letters.all fun n => decide (n < w.many)) = true then some "letters" else
  if w.inputs.length ≠ P.inputs.length ∨ ¬ (w.inputs.all fun n => decide (n < w.many)) = true then some "inputs" else
  if ¬ (w.anys.all fun n => decide (n < w.many)) = true then some "anys" else
  if rightFns P.fs w.many w.tabs = true then none else some "functions"
def eO : Option Str → D
  | none => .non
  | some x => .str x
def sp_world_fault : ASp := fun ds h R _ => ∃ P w, ds = [eP P, eW w] ∧ (∀ f ∈ P.fs, FOk f) ∧ (w.letters.length = P.letters.length → w.letters.Nodup) ∧ R (eO (worldFault P w)) h
abbrev s_world_fault : Stmt := topS 19
def N_world_fault : List Str := ["program", "world", "many", "letters", "inputs", "anys", "functions", "is_one_each", "one"]
theorem sc_world_fault : FnScope N_world_fault ["program", "world"] (defScope s_world_fault) := ⟨rfl, rfl, rfl, by decide +kernel, rfl, by decide +kernel, by decide +kernel⟩
def SC_world_fault_0r : Scope := { kind := .function, names := [(PySem.Str.ofString ".0", PySem.NameKind.local), (PySem.Str.ofString "one", PySem.NameKind.local)], isGenerator := false, isCoroutine := false, more := [] }
def SC_world_fault_0 : Scope := { kind := .function, names := [(PySem.Str.ofString ".0", PySem.NameKind.local), (PySem.Str.ofString "one", PySem.NameKind.local)], isGenerator := false, isCoroutine := false, more := [] }
def t_world_fault : AS :=
  (aSeq (aAsg (aVar 1) (aGTup 5 (aGCons (aName 2) (aGCons (aName 3) (aGCons (aName 4) (aGCons (aName 5) (aGCons (aName 6) aGNil)))))))
    (aSeq (aIfS (aTest (aOp rLt (aVar 2) (aC (.int 1)))) (aRet (aC (.str "many"))) aNext)
    (aSeq (aSet 7 (aAndV (aOp rEq (aCB cLen (aCons (aVar 3) aNil)) (aCB cLen (aCons (aOp rIx (aVar 0) (aC (.int 1))) aNil))) (aFg (aOp rEq (aFg (aCB cLen (aCons (aDc (iSeq (aVar 3)) (aName 8) aYes (aVar 8) (aC (.bl true)) [8]) aNil))) (aCB cLen (aCons (aVar 3) aNil))))))
    (aSeq (aIfS (aOr (aNot (aTest (aVar 7))) (aNot (aTest (aCall sp_are_below AX0 (aCons (aVar 3) (aCons (aVar 2) aNil)))))) (aRet (aC (.str "letters"))) aNext)
    (aSeq (aIfS (aOr (aTest (aOp rNe (aCB cLen (aCons (aVar 4) aNil)) (aCB cLen (aCons (aOp rIx (aVar 0) (aC (.int 3))) aNil)))) (aNot (aTest (aCall sp_are_below AX0 (aCons (aVar 4) (aCons (aVar 2) aNil)))))) (aRet (aC (.str "inputs"))) aNext)
    (aSeq (aIfS (aNot (aTest (aCall sp_are_below AX0 (aCons (aVar 5) (aCons (aVar 2) aNil))))) (aRet (aC (.str "anys"))) aNext)
    (aRet (aIf (aTest (aCall sp_are_right_functions AX0 (aCons (aVar 0) (aCons (aVar 2) (aCons (aVar 6) aNil))))) (aC .non) (aC (.str "functions"))))))))))
theorem ok_world_fault {gd : Prop} {P : Program} {w : World} {K : PySem.W.Frag} {mg : Str → Option Value} {base : Heap} {f : Addr} {fd : FuncData} (F : FnP K "world_fault" s_world_fault f fd) (c_are_below : Cal gd P w K mg base 1 "are_below" ["worths", "many"] sp_are_below) (c_are_right_functions : Cal gd P w K mg base 4 "are_right_functions" ["program", "many", "functions"] sp_are_right_functions) (z_len : mg "len" = none)
    (len : ∀ ds h R E, sp_world_fault ds h R E → ds.length = 2) (pure_ : ∀ ds h R E, sp_world_fault ds h R E → t_world_fault { nx := fun _ h' => fgR R .non h', rt := fgR R } (astart N_world_fault ds) h) :
    FnG gd P w K mg base 5 f fd ["program", "world"] (upSp P w K sp_world_fault) := by
  refine afn (k := 4) F sc_world_fault len fun cdv A outer s H W ds h R E hr hG hsp tk => ⟨t_world_fault, ?_, pure_ ds h R E hsp⟩
  exact (b_cons (s_asg (e_var (pv 1)) (g_tup (by rfl) (gs_cons (g_name (i := 2) sc_world_fault.nd rfl (by first | exact Or.inl rfl | exact Or.inr rfl)) (gs_cons (g_name (i := 3) sc_world_fault.nd rfl (by first | exact Or.inl rfl | exact Or.inr rfl)) (gs_cons (g_name (i := 4) sc_world_fault.nd rfl (by first | exact Or.inl rfl | exact Or.inr rfl)) (gs_cons (g_name (i := 5) sc_world_fault.nd rfl (by first | exact Or.inl rfl | exact Or.inr rfl)) (gs_cons (g_name (i := 6) sc_world_fault.nd rfl (by first | exact Or.inl rfl | exact Or.inr rfl)) gs_nil)))))))
    (b_cons (s_if (t_cmp (o_lt hr.units0) (e_var (pv 2)) e_int (by first | exact nomark _ | rfl)) (b_one (s_ret e_str)) b_nil)
    (b_cons (s_set (i := 7) sc_world_fault.nd rfl (by first | exact Or.inl rfl | exact Or.inr rfl) (e_and (e_cmp (o_eq hr.units) (e_call call_len (by rfl) z_len boot_len (a_cons (e_var (pv 3)) a_nil)) (e_call call_len (by rfl) z_len boot_len (a_cons (e_ix (e_var (pv 0)) e_int) a_nil)) (by first | exact nomark _ | rfl)) (e_one (e_fg (e_cmp (o_eq hr.units) (e_fg (e_call call_len (by rfl) z_len boot_len (a_cons (e_dc (scope := SC_world_fault_0) (own := [("one", 8)]) (us := [8]) (l := false) (g := (aName 8)) (tt := aYes) (by rfl) sc_world_fault.nd (i_seq (e_var (pv 3))) (by exact blkOk_by (N := N_world_fault) (sc := (defScope s_world_fault)) (scope := SC_world_fault_0) (own := [("one", 8)]) (by decide +kernel)) (fun _ _ _ _ _ => (g_name (i := 8) sc_world_fault.nd rfl (by first | exact Or.inl rfl | exact Or.inr rfl))) (fun _ _ _ _ _ => ts_nil) (fun _ _ _ _ _ => (e_var (pv 8))) (fun _ _ _ _ _ => e_bl) (by decide)) a_nil))) (e_call call_len (by rfl) z_len boot_len (a_cons (e_var (pv 3)) a_nil)) (by first | exact nomark _ | rfl))))))
    (b_cons (s_if (PW.pt (w_or (t_not (t_val (e_var (pv 7)) (by intro _; rfl))) (w_or1 (t_not (t_val (e_cal c_are_below hr hG (by rfl) xpass0 (a_cons (e_var (pv 3)) (a_cons (e_var (pv 2)) a_nil))) (by intro _; rfl)))))) (b_one (s_ret e_str)) b_nil)
    (b_cons (s_if (PW.pt (w_or (t_cmp (o_ne hr.units) (e_call call_len (by rfl) z_len boot_len (a_cons (e_var (pv 4)) a_nil)) (e_call call_len (by rfl) z_len boot_len (a_cons (e_ix (e_var (pv 0)) e_int) a_nil)) (by first | exact nomark _ | rfl)) (w_or1 (t_not (t_val (e_cal c_are_below hr hG (by rfl) xpass0 (a_cons (e_var (pv 4)) (a_cons (e_var (pv 2)) a_nil))) (by intro _; rfl)))))) (b_one (s_ret e_str)) b_nil)
    (b_cons (s_if (t_not (t_val (e_cal c_are_below hr hG (by rfl) xpass0 (a_cons (e_var (pv 5)) (a_cons (e_var (pv 2)) a_nil))) (by intro _; rfl))) (b_one (s_ret e_str)) b_nil)
    (b_one (s_ret (e_if (t_val (e_cal c_are_right_functions hr hG (by rfl) xpass0 (a_cons (e_var (pv 0)) (a_cons (e_var (pv 2)) (a_cons (e_var (pv 6)) a_nil)))) (by intro _; rfl)) e_non e_str)))))))))
def sp_checked_world (CB CT : Addr) : ASp := fun ds h R E => ∃ P d, ds = [eP P, d] ∧ (∀ f ∈ P.fs, FOk f) ∧ (noRef d = true ∨ (Tyd h d ∧ ∃ a, d = .ref a)) ∧
  (worldForm d = false → E CB [("fault", .str "form")] h) ∧ (∀ w, d = eW w → worldForm d = true → (w.letters.length = P.letters.length → w.letters.Nodup) ∧ (2100 < w.many → E CT [("what", .str "worths"), ("limit", .int 2100)] h) ∧
    (w.many ≤ 2100 → (∀ x, worldFault P w = some x → E CB [("fault", .str x)] h) ∧ (worldFault P w = none → R d h)))
abbrev s_checked_world : Stmt := topS 20
def N_checked_world : List Str := ["program", "thing", "fault"]
theorem sc_checked_world : FnScope N_checked_world ["program", "thing"] (defScope s_checked_world) := ⟨rfl, rfl, rfl, by decide +kernel, rfl, by decide +kernel, by decide +kernel⟩
def t_checked_world (E : AXK) (C_BadWorld : Addr) (C_TooLarge : Addr) : AS :=
  (aSeq (aIfS (aNot (aTest (aCall sp_is_world_form AX0 (aCons (aVar 1) aNil)))) (aRaiseI E C_BadWorld ["fault"] (aCons (aC (.str "form")) aNil)) aNext)
    (aSeq (aIfS (aTest (aOp (rI2 (fun _ _ => True) fun i j => .bl (decide (j < i))) (aOp rIx (aVar 1) (aC (.int 0))) (aC (.int 2100)))) (aRaiseI E C_TooLarge ["what", "limit"] (aCons (aC (.str "worths")) (aCons (aC (.int 2100)) aNil))) aNext)
    (aSeq (aSet 2 (aCall sp_world_fault AX0 (aCons (aVar 0) (aCons (aVar 1) aNil))))
    (aSeq (aIfS (aTest (aOp (rIsN not) (aVar 2) (aC .non))) (aRaiseI E C_BadWorld ["fault"] (aCons (aVar 2) aNil)) aNext)
    (aRet (aVar 1))))))
theorem ok_checked_world {gd : Prop} {P : Program} {w : World} {K : PySem.W.Frag} {mg : Str → Option Value} {base : Heap} {f : Addr} {fd : FuncData} {C_BadWorld : Addr} {C_TooLarge : Addr} (F : FnP K "checked_world" s_checked_world f fd) (c_is_world_form : Cal gd P w K mg base 5 "is_world_form" ["thing"] sp_is_world_form) (c_world_fault : Cal gd P w K mg base 5 "world_fault" ["program", "world"] sp_world_fault) (k_MOST_WORTHS : ∃ u, mg "MOST_WORTHS" = some u ∧ RelV (.int 2100) u) (x_BadWorld : ExI P w K mg base "BadWorld" C_BadWorld ["fault"]) (x_TooLarge : ExI P w K mg base "TooLarge" C_TooLarge ["what", "limit"])
    (len : ∀ ds h R E, (sp_checked_world C_BadWorld C_TooLarge) ds h R E → ds.length = 2) (pure_ : ∀ ds h R E, (sp_checked_world C_BadWorld C_TooLarge) ds h R E → t_checked_world E C_BadWorld C_TooLarge { nx := fun _ h' => fgR R .non h', rt := fgR R } (astart N_checked_world ds) h) :
    FnG gd P w K mg base 6 f fd ["program", "thing"] (upSp P w K (sp_checked_world C_BadWorld C_TooLarge)) := by
  refine afn (k := 5) F sc_checked_world len fun cdv A outer s H W ds h R E hr hG hsp tk => ⟨t_checked_world E C_BadWorld C_TooLarge, ?_, pure_ ds h R E hsp⟩
  have hx : XPass _ E := xpass tk
  exact (b_cons (s_if (t_not (t_val (e_cal c_is_world_form hr hG (by rfl) xpass0 (a_cons (e_var (pv 1)) a_nil)) (by intro _; rfl))) (b_one (s_raiseI (k := 0) x_BadWorld (hr.mono (by decide)) (by rfl) rfl tk (a_cons e_str a_nil))) b_nil)
    (b_cons (s_if (t_cmp o_gtI (e_ix (e_var (pv 1)) e_int) (e_glob (by rfl) k_MOST_WORTHS) (by first | exact nomark _ | rfl)) (b_one (s_raiseI (k := 0) x_TooLarge (hr.mono (by decide)) (by rfl) rfl tk (a_cons e_str (a_cons (e_glob (by rfl) k_MOST_WORTHS) a_nil)))) b_nil)
    (b_cons (s_set (i := 2) sc_checked_world.nd rfl (by first | exact Or.inl rfl | exact Or.inr rfl) (e_cal c_world_fault hr hG (by rfl) xpass0 (a_cons (e_var (pv 0)) (a_cons (e_var (pv 1)) a_nil))))
    (b_cons (s_if (t_cmp o_isnot (e_var (pv 2)) e_non (by first | exact nomark _ | rfl)) (b_one (s_raiseI (k := 0) x_BadWorld (hr.mono (by decide)) (by rfl) rfl tk (a_cons (e_var (pv 2)) a_nil))) b_nil)
    (b_one (s_ret (e_var (pv 1))))))))
def sp_function_at (CN : Addr) : ASp := fun ds h R E => ∃ P x, ds = [eP P, .str x] ∧ (∀ f ∈ P.fs, FOk f) ∧ PyData.strOk x = true ∧ (∀ i, (P.fs.findIdx? fun f => f.f == x) = some i → R (.int (i : Nat)) h) ∧ ((P.fs.findIdx? fun f => f.f == x) = none → E CN [] h)
abbrev s_function_at : Stmt := topS 21
def N_function_at : List Str := ["program", "f", "at", "one"]
theorem sc_function_at : FnScope N_function_at ["program", "f"] (defScope s_function_at) := ⟨rfl, rfl, rfl, by decide +kernel, rfl, by decide +kernel, by decide +kernel⟩
def t_function_at (E : AXK) (C_Nothing : Addr) : AS :=
  (aSeq (aFor (iEn (aOp rIx (aVar 0) (aC (.int 0)))) (aGTup 2 (aGCons (aName 2) (aGCons (aName 3) aGNil))) (aIfS (aTest (aOp rEq (aOp rIx (aVar 3) (aC (.int 0))) (aVar 1))) (aRet (aVar 2)) aNext))
    (aRaise E C_Nothing))
theorem ok_function_at {gd : Prop} {P : Program} {w : World} {K : PySem.W.Frag} {mg : Str → Option Value} {base : Heap} {f : Addr} {fd : FuncData} {C_Nothing : Addr} (F : FnP K "function_at" s_function_at f fd) (z_enumerate : mg "enumerate" = none) (x_Nothing : Exo K mg "Nothing" C_Nothing)
    (len : ∀ ds h R E, (sp_function_at C_Nothing) ds h R E → ds.length = 2) (pure_ : ∀ ds h R E, (sp_function_at C_Nothing) ds h R E → t_function_at E C_Nothing { nx := fun _ h' => fgR R .non h', rt := fgR R } (astart N_function_at ds) h) :
    FnG gd P w K mg base 3 f fd ["program", "f"] (upSp P w K (sp_function_at C_Nothing)) := by
  refine afn (k := 2) F sc_function_at len fun cdv A outer s H W ds h R E hr hG hsp tk => ⟨t_function_at E C_Nothing, ?_, pure_ ds h R E hsp⟩
  have hx : XPass _ E := xpass tk
  have HP : PassesOwn (model P w) (A.deeper (envOfC "function_at" (defScope s_function_at) s.heap.objs.size f cdv)) (envOfC "function_at" (defScope s_function_at) s.heap.objs.size f cdv) (cxOf (L2.CX P w) P w K mg base N_function_at "function_at" (defScope s_function_at) f cdv A outer s H W).xe := passes_of (X := cxOf (L2.CX P w) P w K mg base N_function_at "function_at" (defScope s_function_at) f cdv A outer s H W) rfl
  exact (b_cons (s_for HP (by rfl) (i_enum (by rfl) z_enumerate (e_ix (e_var (pv 0)) e_int)) (g_tup (by rfl) (gs_cons (g_name (i := 2) sc_function_at.nd rfl (by first | exact Or.inl rfl | exact Or.inr rfl)) (gs_cons (g_name (i := 3) sc_function_at.nd rfl (by first | exact Or.inl rfl | exact Or.inr rfl)) gs_nil))) (b_one (s_if (t_cmp (o_eq hr.units) (e_ix (e_var (pv 3)) e_int) (e_var (pv 1)) (by first | exact nomark _ | rfl)) (b_one (s_ret (e_var (pv 2)))) b_nil)))
    (b_one (s_raise0 x_Nothing (by rfl) rfl tk)))
/-- worths otherwise -/
def atO (o : List Int) (n : Int) : Int := o.getD n.toNat 0
noncomputable def keyD (f : Fnc) (ks : List Int) : D := if f.how = "either" then .tup (srt (ks.map D.int)) else eI ks
noncomputable def applyT (f : Fnc) (t : Tab) (ws : List Int) : D := (valD (putsD [] (t.1.map fun r => (eI r.1, .int r.2))) (keyD f ws)).getD (.int t.2)
def sp_applied (CN : Addr) : ASp := fun ds h R E => ∃ P w x ws, ds = [eP P, eW w, .str x, eI ws] ∧ (∀ f ∈ P.fs, FOk f) ∧ PyData.strOk x = true ∧ w.tabs.length = P.fs.length ∧ ((P.fs.findIdx? fun f => f.f == x) = none → E CN [] h) ∧
  ∀ i f t, (P.fs.findIdx? fun f => f.f == x) = some i → P.fs[i]? = some f → w.tabs[i]? = some t →
    (¬ ((ws.all fun n => decide (0 ≤ n)) = true ∧ ws.length = f.p ∧ (ws.all fun n => decide (n < w.many)) = true) → E CN [] h) ∧ (((ws.all fun n => decide (0 ≤ n)) = true ∧ ws.length = f.p ∧ (ws.all fun n => decide (n < w.many)) = true) → R (applyT f t ws) h)
abbrev s_applied : Stmt := topS 22
def N_applied : List Str := ["program", "world", "f", "worths", "at", "name", "parts", "how", "key", "rows", "rest"]
theorem sc_applied : FnScope N_applied ["program", "world", "f", "worths"] (defScope s_applied) := ⟨rfl, rfl, rfl, by decide +kernel, rfl, by decide +kernel, by decide +kernel⟩
def t_applied (E : AXK) (C_Nothing : Addr) : AS :=
  (aSeq (aSet 4 (aCall (sp_function_at C_Nothing) E (aCons (aVar 0) (aCons (aVar 2) aNil))))
    (aSeq (aAsg (aOp rIx (aOp rIx (aVar 0) (aC (.int 0))) (aVar 4)) (aGTup 3 (aGCons (aName 5) (aGCons (aName 6) (aGCons (aName 7) aGNil)))))
    (aSeq (aIfS (aOr (aNot (aTest (aCall sp_are_indexes AX0 (aCons (aVar 3) aNil)))) (aOr (aTest (aOp rNe (aCB cLen (aCons (aVar 3) aNil)) (aVar 6))) (aNot (aTest (aCall sp_are_below AX0 (aCons (aVar 3) (aCons (aOp rIx (aVar 1) (aC (.int 0))) aNil))))))) (aRaise E C_Nothing) aNext)
    (aSeq (aSet 8 (aIf (aTest (aOp rEq (aVar 7) (aC (.str "either")))) (aFg (aCB cTuple (aCons (aCB cSorted (aCons (aVar 3) aNil)) aNil))) (aVar 3)))
    (aSeq (aAsg (aOp rIx (aOp rIx (aVar 1) (aC (.int 4))) (aVar 4)) (aGTup 2 (aGCons (aName 9) (aGCons (aName 10) aGNil))))
    (aRet (aFg (aM "dict" mGet (aCB cDict (aCons (aVar 9) aNil)) (aCons (aVar 8) (aCons (aVar 10) aNil))))))))))
theorem ok_applied {gd : Prop} {P : Program} {w : World} {K : PySem.W.Frag} {mg : Str → Option Value} {base : Heap} {f : Addr} {fd : FuncData} {C_Nothing : Addr} (F : FnP K "applied" s_applied f fd) (c_function_at : Cal gd P w K mg base 3 "function_at" ["program", "f"] (sp_function_at C_Nothing)) (c_are_indexes : Cal gd P w K mg base 3 "are_indexes" ["thing"] sp_are_indexes) (c_are_below : Cal gd P w K mg base 1 "are_below" ["worths", "many"] sp_are_below) (z_len : mg "len" = none) (z_tuple : mg "tuple" = none) (z_sorted : mg "sorted" = none) (z_dict : mg "dict" = none) (x_Nothing : Exo K mg "Nothing" C_Nothing)
    (len : ∀ ds h R E, (sp_applied C_Nothing) ds h R E → ds.length = 4) (pure_ : ∀ ds h R E, (sp_applied C_Nothing) ds h R E → t_applied E C_Nothing { nx := fun _ h' => fgR R .non h', rt := fgR R } (astart N_applied ds) h) :
    FnG gd P w K mg base 4 f fd ["program", "world", "f", "worths"] (upSp P w K (sp_applied C_Nothing)) := by
  refine afn (k := 3) F sc_applied len fun cdv A outer s H W ds h R E hr hG hsp tk => ⟨t_applied E C_Nothing, ?_, pure_ ds h R E hsp⟩
  have hx : XPass _ E := xpass tk
  exact (b_cons (s_set (i := 4) sc_applied.nd rfl (by first | exact Or.inl rfl | exact Or.inr rfl) (e_cal c_function_at hr hG (by rfl) hx (a_cons (e_var (pv 0)) (a_cons (e_var (pv 2)) a_nil))))
    (b_cons (s_asg (e_ix (e_ix (e_var (pv 0)) e_int) (e_var (pv 4))) (g_tup (by rfl) (gs_cons (g_name (i := 5) sc_applied.nd rfl (by first | exact Or.inl rfl | exact Or.inr rfl)) (gs_cons (g_name (i := 6) sc_applied.nd rfl (by first | exact Or.inl rfl | exact Or.inr rfl)) (gs_cons (g_name (i := 7) sc_applied.nd rfl (by first | exact Or.inl rfl | exact Or.inr rfl)) gs_nil)))))
    (b_cons (s_if (PW.pt (w_or (t_not (t_val (e_cal c_are_indexes hr hG (by rfl) xpass0 (a_cons (e_var (pv 3)) a_nil)) (by intro _; rfl))) (w_or (t_cmp (o_ne hr.units) (e_call call_len (by rfl) z_len boot_len (a_cons (e_var (pv 3)) a_nil)) (e_var (pv 6)) (by first | exact nomark _ | rfl)) (w_or1 (t_not (t_val (e_cal c_are_below hr hG (by rfl) xpass0 (a_cons (e_var (pv 3)) (a_cons (e_ix (e_var (pv 1)) e_int) a_nil))) (by intro _; rfl))))))) (b_one (s_raise0 x_Nothing (by rfl) rfl tk)) b_nil)
    (b_cons (s_set (i := 8) sc_applied.nd rfl (by first | exact Or.inl rfl | exact Or.inr rfl) (e_if (t_cmp (o_eq hr.units) (e_var (pv 7)) e_str (by first | exact nomark _ | rfl)) (e_fg (e_callT call_tuple (by rfl) z_tuple boot_tuple (a_cons (e_call (call_sorted hr.units) (by rfl) z_sorted boot_sorted (a_cons (e_var (pv 3)) a_nil)) a_nil))) (e_var (pv 3))))
    (b_cons (s_asg (e_ix (e_ix (e_var (pv 1)) e_int) (e_var (pv 4))) (g_tup (by rfl) (gs_cons (g_name (i := 9) sc_applied.nd rfl (by first | exact Or.inl rfl | exact Or.inr rfl)) (gs_cons (g_name (i := 10) sc_applied.nd rfl (by first | exact Or.inl rfl | exact Or.inr rfl)) gs_nil))))
    (b_one (s_ret (e_fg (e_m PySem.F.plainAttrs_dict PySem.F.slot_dict_get PySem.F.type_dict_get (m_get hr.units) (e_callT (call_dict rfl hr.units) (by rfl) z_dict boot_dict (a_cons (e_var (pv 9)) a_nil)) (a_cons (e_var (pv 8)) (a_cons (e_var (pv 10)) a_nil)))))))))))
def sp_letter_worth (CN : Addr) : ASp := fun ds h R E => ∃ P w x, ds = [eP P, eW w, .str x] ∧ w.letters.length = P.letters.length ∧ (P.letters.all fun y => PyData.strOk y) = true ∧ PyData.strOk x = true ∧ (x ∉ P.letters → E CN [] h) ∧
  ∀ (i : Nat) (n : Int), P.letters[i]? = some x → (∀ j : Nat, j < i → P.letters[j]? ≠ some x) → w.letters[i]? = some n → R (.int n) h
abbrev s_letter_worth : Stmt := topS 23
def N_letter_worth : List Str := ["program", "world", "a"]
theorem sc_letter_worth : FnScope N_letter_worth ["program", "world", "a"] (defScope s_letter_worth) := ⟨rfl, rfl, rfl, by decide +kernel, rfl, by decide +kernel, by decide +kernel⟩
def t_letter_worth (E : AXK) (C_Nothing : Addr) : AS :=
  (aSeq (aIfS (aTest (aOp (rInB not) (aVar 2) (aOp rIx (aVar 0) (aC (.int 1))))) (aRaise E C_Nothing) aNext)
    (aRet (aOp rIx (aOp rIx (aVar 1) (aC (.int 1))) (aM "tuple" mIndexT (aOp rIx (aVar 0) (aC (.int 1))) (aCons (aVar 2) aNil)))))
theorem ok_letter_worth {gd : Prop} {P : Program} {w : World} {K : PySem.W.Frag} {mg : Str → Option Value} {base : Heap} {f : Addr} {fd : FuncData} {C_Nothing : Addr} (F : FnP K "letter_worth" s_letter_worth f fd) (x_Nothing : Exo K mg "Nothing" C_Nothing)
    (len : ∀ ds h R E, (sp_letter_worth C_Nothing) ds h R E → ds.length = 3) (pure_ : ∀ ds h R E, (sp_letter_worth C_Nothing) ds h R E → t_letter_worth E C_Nothing { nx := fun _ h' => fgR R .non h', rt := fgR R } (astart N_letter_worth ds) h) :
    FnG gd P w K mg base 3 f fd ["program", "world", "a"] (upSp P w K (sp_letter_worth C_Nothing)) := by
  refine afn (k := 2) F sc_letter_worth len fun cdv A outer s H W ds h R E hr hG hsp tk => ⟨t_letter_worth E C_Nothing, ?_, pure_ ds h R E hsp⟩
  have hx : XPass _ E := xpass tk
  exact (b_cons (s_if (t_cmp (o_notin (u65 hr)) (e_var (pv 2)) (e_ix (e_var (pv 0)) e_int) (by first | exact nomark _ | rfl)) (b_one (s_raise0 x_Nothing (by rfl) rfl tk)) b_nil)
    (b_one (s_ret (e_ix (e_ix (e_var (pv 1)) e_int) (e_m PySem.F.plainAttrs_tuple PySem.F.slot_tuple_index PySem.F.type_tuple_index m_indexT (e_ix (e_var (pv 0)) e_int) (a_cons (e_var (pv 2)) a_nil))))))
def sp_input_worth (CN : Addr) : ASp := fun ds h R E => ∃ P w x, ds = [eP P, eW w, .str x] ∧ w.inputs.length = P.inputs.length ∧ (P.inputs.all fun y => PyData.strOk y) = true ∧ PyData.strOk x = true ∧ (x ∉ P.inputs → E CN [] h) ∧
  ∀ (i : Nat) (n : Int), P.inputs[i]? = some x → (∀ j : Nat, j < i → P.inputs[j]? ≠ some x) → w.inputs[i]? = some n → R (.int n) h
abbrev s_input_worth : Stmt := topS 24
def N_input_worth : List Str := ["program", "world", "x"]
theorem sc_input_worth : FnScope N_input_worth ["program", "world", "x"] (defScope s_input_worth) := ⟨rfl, rfl, rfl, by decide +kernel, rfl, by decide +kernel, by decide +kernel⟩
def t_input_worth (E : AXK) (C_Nothing : Addr) : AS :=
  (aSeq (aIfS (aTest (aOp (rInB not) (aVar 2) (aOp rIx (aVar 0) (aC (.int 3))))) (aRaise E C_Nothing) aNext)
    (aRet (aOp rIx (aOp rIx (aVar 1) (aC (.int 2))) (aM "tuple" mIndexT (aOp rIx (aVar 0) (aC (.int 3))) (aCons (aVar 2) aNil)))))
theorem ok_input_worth {gd : Prop} {P : Program} {w : World} {K : PySem.W.Frag} {mg : Str → Option Value} {base : Heap} {f : Addr} {fd : FuncData} {C_Nothing : Addr} (F : FnP K "input_worth" s_input_worth f fd) (x_Nothing : Exo K mg "Nothing" C_Nothing)
    (len : ∀ ds h R E, (sp_input_worth C_Nothing) ds h R E → ds.length = 3) (pure_ : ∀ ds h R E, (sp_input_worth C_Nothing) ds h R E → t_input_worth E C_Nothing { nx := fun _ h' => fgR R .non h', rt := fgR R } (astart N_input_worth ds) h) :
    FnG gd P w K mg base 3 f fd ["program", "world", "x"] (upSp P w K (sp_input_worth C_Nothing)) := by
  refine afn (k := 2) F sc_input_worth len fun cdv A outer s H W ds h R E hr hG hsp tk => ⟨t_input_worth E C_Nothing, ?_, pure_ ds h R E hsp⟩
  have hx : XPass _ E := xpass tk
  exact (b_cons (s_if (t_cmp (o_notin (u65 hr)) (e_var (pv 2)) (e_ix (e_var (pv 0)) e_int) (by first | exact nomark _ | rfl)) (b_one (s_raise0 x_Nothing (by rfl) rfl tk)) b_nil)
    (b_one (s_ret (e_ix (e_ix (e_var (pv 1)) e_int) (e_m PySem.F.plainAttrs_tuple PySem.F.slot_tuple_index PySem.F.type_tuple_index m_indexT (e_ix (e_var (pv 0)) e_int) (a_cons (e_var (pv 2)) a_nil))))))
def sp_any_worth (CN : Addr) : ASp := fun ds h R E => ∃ w k, ds = [eW w, .int k] ∧ 0 ≤ k ∧ R (.int (w.anys.getD k.toNat 0)) h
abbrev s_any_worth : Stmt := topS 25
def N_any_worth : List Str := ["world", "k"]
theorem sc_any_worth : FnScope N_any_worth ["world", "k"] (defScope s_any_worth) := ⟨rfl, rfl, rfl, by decide +kernel, rfl, by decide +kernel, by decide +kernel⟩
def t_any_worth (E : AXK) (C_Nothing : Addr) : AS :=
  (aSeq (aIfS (aNot (aTest (aCall sp_is_index AX0 (aCons (aVar 1) aNil)))) (aRaise E C_Nothing) aNext)
    (aRet (aIf (aTest (aOp rLt (aVar 1) (aCB cLen (aCons (aOp rIx (aVar 0) (aC (.int 3))) aNil)))) (aOp rIx (aOp rIx (aVar 0) (aC (.int 3))) (aVar 1)) (aC (.int 0)))))
theorem ok_any_worth {gd : Prop} {P : Program} {w : World} {K : PySem.W.Frag} {mg : Str → Option Value} {base : Heap} {f : Addr} {fd : FuncData} {C_Nothing : Addr} (F : FnP K "any_worth" s_any_worth f fd) (c_is_index : Cal gd P w K mg base 2 "is_index" ["thing"] sp_is_index) (z_len : mg "len" = none) (x_Nothing : Exo K mg "Nothing" C_Nothing)
    (len : ∀ ds h R E, (sp_any_worth C_Nothing) ds h R E → ds.length = 2) (pure_ : ∀ ds h R E, (sp_any_worth C_Nothing) ds h R E → t_any_worth E C_Nothing { nx := fun _ h' => fgR R .non h', rt := fgR R } (astart N_any_worth ds) h) :
    FnG gd P w K mg base 3 f fd ["world", "k"] (upSp P w K (sp_any_worth C_Nothing)) := by
  refine afn (k := 2) F sc_any_worth len fun cdv A outer s H W ds h R E hr hG hsp tk => ⟨t_any_worth E C_Nothing, ?_, pure_ ds h R E hsp⟩
  have hx : XPass _ E := xpass tk
  exact (b_cons (s_if (t_not (t_val (e_cal c_is_index hr hG (by rfl) xpass0 (a_cons (e_var (pv 1)) a_nil)) (by intro _; rfl))) (b_one (s_raise0 x_Nothing (by rfl) rfl tk)) b_nil)
    (b_one (s_ret (e_if (t_cmp (o_lt hr.units0) (e_var (pv 1)) (e_call call_len (by rfl) z_len boot_len (a_cons (e_ix (e_var (pv 0)) e_int) a_nil)) (by first | exact nomark _ | rfl)) (e_ix (e_ix (e_var (pv 0)) e_int) (e_var (pv 1))) e_int))))
noncomputable def otherRow (f : Fnc) (o : List Int) (r : Row) : D := .tup [keyD f (r.1.map (atO o)), .int (atO o r.2)]
def Within (n : Nat) (k : Int) : Prop := 0 ≤ k ∧ k < n
def RowIn (n : Nat) (r : Row) : Prop := (∀ k ∈ r.1, Within n k) ∧ Within n r.2
def sp_row_otherwise : ASp := fun ds h R _ => ∃ f o r, ds = [eFn f, eI o, eRow r] ∧ FOk f ∧ RowIn o.length r ∧ R (otherRow f o r) h
abbrev s_row_otherwise : Stmt := topS 26
def N_row_otherwise : List Str := ["function", "order", "row", "key", "worth"]
theorem sc_row_otherwise : FnScope N_row_otherwise ["function", "order", "row"] (defScope s_row_otherwise) := ⟨rfl, rfl, rfl, by decide +kernel, rfl, by decide +kernel, by decide +kernel⟩
def SC_row_otherwise_0r : Scope := { kind := .function, names := [ (PySem.Str.ofString ".0", PySem.NameKind.local), (PySem.Str.ofString "worth", PySem.NameKind.local), (PySem.Str.ofString "order", PySem.NameKind.cell)], isGenerator := false, isCoroutine := false, more := [] }
def SC_row_otherwise_0 : Scope := { kind := .function, names := [ (PySem.Str.ofString ".0", PySem.NameKind.local), (PySem.Str.ofString "worth", PySem.NameKind.local), (PySem.Str.ofString "order", PySem.NameKind.free)], isGenerator := false, isCoroutine := false, more := [] }
def t_row_otherwise : AS :=
  (aSeq (aSet 3 (aLc (iSeq (aOp rIx (aVar 2) (aC (.int 0)))) (aName 4) aYes (aOp rIx (aVar 1) (aVar 4)) [4]))
    (aRet (aTup (aCons (aFg (aCB cTuple (aCons (aIf (aTest (aOp rEq (aOp rIx (aVar 0) (aC (.int 2))) (aC (.str "either")))) (aCB cSorted (aCons (aVar 3) aNil)) (aVar 3)) aNil))) (aCons (aOp rIx (aVar 1) (aOp rIx (aVar 2) (aC (.int 1)))) aNil)))))
theorem ok_row_otherwise {gd : Prop} {P : Program} {w : World} {K : PySem.W.Frag} {mg : Str → Option Value} {base : Heap} {f : Addr} {fd : FuncData} (F : FnP K "row_otherwise" s_row_otherwise f fd) (z_tuple : mg "tuple" = none) (z_sorted : mg "sorted" = none)
    (len : ∀ ds h R E, sp_row_otherwise ds h R E → ds.length = 3) (pure_ : ∀ ds h R E, sp_row_otherwise ds h R E → t_row_otherwise { nx := fun _ h' => fgR R .non h', rt := fgR R } (astart N_row_otherwise ds) h) :
    FnG gd P w K mg base 1 f fd ["function", "order", "row"] (upSp P w K sp_row_otherwise) := by
  refine afn (k := 0) F sc_row_otherwise len fun cdv A outer s H W ds h R E hr hG hsp tk => ⟨t_row_otherwise, ?_, pure_ ds h R E hsp⟩
  exact (b_cons (s_setLc (X := cxOf (L2.CX P w) P w K mg base N_row_otherwise "row_otherwise" (defScope s_row_otherwise) f cdv A outer s H W) (i := 3) (scope := SC_row_otherwise_0) (own := [("worth", 4)]) (us := [4]) (l := false) (g := (aName 4)) (tt := aYes) (by rfl) sc_row_otherwise.nd rfl (by rfl) (by rfl) (i_seq (e_ix (e_var (pv 2)) e_int)) (by exact blkOk_by (N := N_row_otherwise) (sc := (defScope s_row_otherwise)) (scope := SC_row_otherwise_0) (own := [("worth", 4)]) (by decide +kernel)) (fun _ _ _ _ _ => (g_name (i := 4) sc_row_otherwise.nd rfl (by first | exact Or.inl rfl | exact Or.inr rfl))) (fun _ _ _ _ _ => ts_nil) (fun _ _ _ _ _ => (e_ix (e_var (pv 1)) (e_var (pv 4)))) (by decide))
    (b_one (s_ret (e_tup (a_cons (e_fg (e_callT call_tuple (by rfl) z_tuple boot_tuple (a_cons (e_if (t_cmp (o_eq hr.units) (e_ix (e_var (pv 0)) e_int) e_str (by first | exact nomark _ | rfl)) (e_call (call_sorted hr.units) (by rfl) z_sorted boot_sorted (a_cons (e_var (pv 3)) a_nil)) (e_var (pv 3))) a_nil))) (a_cons (e_ix (e_var (pv 1)) (e_ix (e_var (pv 2)) e_int)) a_nil))))))
noncomputable def otherT (f : Fnc) (o : List Int) (t : Tab) : D := .tup [.tup (srt (t.1.map (otherRow f o))), .int (atO o t.2)]
noncomputable def otherW (P : Prg) (w : Wld) (o : List Int) : D := .tup [.int w.many, eI (w.letters.map (atO o)), eI (w.inputs.map (atO o)), eI (w.anys.map (atO o)), .tup (List.zipWith (fun f t => otherT f o t) P.fs w.tabs)]
structure WIn (n : Nat) (w : Wld) : Prop where
  l : ∀ k ∈ w.letters, Within n k
  i : ∀ k ∈ w.inputs, Within n k
  a : ∀ k ∈ w.anys, Within n k
  t : ∀ t ∈ w.tabs, (∀ r ∈ t.1, RowIn n r) ∧ Within n t.2
/-- sizes -/
structure WSz (w : Wld) : Prop where
  l : w.letters.length ≤ 1000
  i : w.inputs.length ≤ 1000
  a : w.anys.length ≤ 1000
  t : w.tabs.length ≤ 1000
def sp_put_otherwise (CN : Addr) : ASp := fun ds h R E => ∃ P w o, ds = [eP P, eW w, eI o] ∧ (∀ f ∈ P.fs, FOk f) ∧ w.many = o.length ∧ o.length ≤ 1000 ∧ o.Perm ((List.range o.length).map fun i => ((i : Nat) : Int)) ∧ WIn o.length w ∧ WSz w ∧ R (otherW P w o) h
abbrev s_put_otherwise : Stmt := topS 27
def N_put_otherwise : List Str := ["program", "world", "order", "many", "letters", "inputs", "anys", "functions", "told", "function", "rows", "rest", "row", "lots", "worth", "lot"]
theorem sc_put_otherwise : FnScope N_put_otherwise ["program", "world", "order"] (defScope s_put_otherwise) := ⟨rfl, rfl, rfl, by decide +kernel, rfl, by decide +kernel, by decide +kernel⟩
def SC_put_otherwise_0r : Scope := { kind := .function, names := [ (PySem.Str.ofString ".0", PySem.NameKind.local), (PySem.Str.ofString "row", PySem.NameKind.local), (PySem.Str.ofString "row_otherwise", PySem.NameKind.globalImplicit), (PySem.Str.ofString "function", PySem.NameKind.cell), (PySem.Str.ofString "order", PySem.NameKind.cell)], isGenerator := false, isCoroutine := false, more := [] }
def SC_put_otherwise_0 : Scope := { kind := .function, names := [ (PySem.Str.ofString ".0", PySem.NameKind.local), (PySem.Str.ofString "row", PySem.NameKind.local), (PySem.Str.ofString "row_otherwise", PySem.NameKind.globalImplicit), (PySem.Str.ofString "function", PySem.NameKind.free), (PySem.Str.ofString "order", PySem.NameKind.free)], isGenerator := false, isCoroutine := false, more := [] }
def SC_put_otherwise_1r : Scope := { kind := .function, names := [ (PySem.Str.ofString ".0", PySem.NameKind.local), (PySem.Str.ofString "lot", PySem.NameKind.local), (PySem.Str.ofString "tuple", PySem.NameKind.globalImplicit), (PySem.Str.ofString "order", PySem.NameKind.cell)], isGenerator := false, isCoroutine := false, more := [] }
def SC_put_otherwise_1 : Scope := { kind := .function, names := [ (PySem.Str.ofString ".0", PySem.NameKind.local), (PySem.Str.ofString "lot", PySem.NameKind.local), (PySem.Str.ofString "tuple", PySem.NameKind.globalImplicit), (PySem.Str.ofString "order", PySem.NameKind.free)], isGenerator := false, isCoroutine := false, more := [] }
def SC_put_otherwise_2r : Scope := { kind := .function, names := [ (PySem.Str.ofString ".0", PySem.NameKind.local), (PySem.Str.ofString "worth", PySem.NameKind.local), (PySem.Str.ofString "order", PySem.NameKind.cell)], isGenerator := false, isCoroutine := false, more := [] }
def SC_put_otherwise_2 : Scope := { kind := .function, names := [ (PySem.Str.ofString ".0", PySem.NameKind.local), (PySem.Str.ofString "worth", PySem.NameKind.local), (PySem.Str.ofString "order", PySem.NameKind.free)], isGenerator := false, isCoroutine := false, more := [] }
def t_put_otherwise (E : AXK) (C_Nothing : Addr) : AS :=
  (aSeq (aAsg (aVar 1) (aGTup 5 (aGCons (aName 3) (aGCons (aName 4) (aGCons (aName 5) (aGCons (aName 6) (aGCons (aName 7) aGNil)))))))
    (aSeq (aIfS (aOr (aNot (aTest (aCall sp_are_indexes AX0 (aCons (aVar 2) aNil)))) (aFgT (aTest (aOp rNe (aCB cSorted (aCons (aVar 2) aNil)) (aListRg (aVar 3)))))) (aRaise E C_Nothing) aNext)
    (aSeq (aSet 8 (aLst aNil))
    (aSeq (aFor (iZip2 (aCons (aOp rIx (aVar 0) (aC (.int 0))) (aCons (aVar 7) aNil))) (aGTup 2 (aGCons (aName 9) (aGCons (aGTup 2 (aGCons (aName 10) (aGCons (aName 11) aGNil))) aGNil))) (aDrop (aFg (aM "list" mAppend (aVar 8) (aCons (aTup (aCons (aFg (aCB cTuple (aCons (aCB cSorted (aCons (aLc (iSeq (aVar 10)) (aName 12) aYes (aCall sp_row_otherwise AX0 (aCons (aVar 9) (aCons (aVar 2) (aCons (aVar 12) aNil)))) [12]) aNil)) aNil))) (aCons (aOp rIx (aVar 2) (aVar 11)) aNil))) aNil)))))
    (aSeq (aSet 13 (aLc (iSeq (aTup (aCons (aVar 4) (aCons (aVar 5) (aCons (aVar 6) aNil))))) (aName 15) aYes (aFg (aCB cTuple (aCons (aLc (iSeq (aVar 15)) (aName 14) aYes (aOp rIx (aVar 2) (aVar 14)) [14]) aNil))) [15]))
    (aRet (aTup (aCons (aVar 3) (aCons (aOp rIx (aVar 13) (aC (.int 0))) (aCons (aOp rIx (aVar 13) (aC (.int 1))) (aCons (aOp rIx (aVar 13) (aC (.int 2))) (aCons (aCB cTuple (aCons (aVar 8) aNil)) aNil))))))))))))
theorem ok_put_otherwise {gd : Prop} {P : Program} {w : World} {K : PySem.W.Frag} {mg : Str → Option Value} {base : Heap} {f : Addr} {fd : FuncData} {C_Nothing : Addr} (F : FnP K "put_otherwise" s_put_otherwise f fd) (c_are_indexes : Cal gd P w K mg base 3 "are_indexes" ["thing"] sp_are_indexes) (c_row_otherwise : Cal gd P w K mg base 1 "row_otherwise" ["function", "order", "row"] sp_row_otherwise) (z_sorted : mg "sorted" = none) (z_list : mg "list" = none) (z_range : mg "range" = none) (z_zip : mg "zip" = none) (z_tuple : mg "tuple" = none) (x_Nothing : Exo K mg "Nothing" C_Nothing)
    (len : ∀ ds h R E, (sp_put_otherwise C_Nothing) ds h R E → ds.length = 3) (pure_ : ∀ ds h R E, (sp_put_otherwise C_Nothing) ds h R E → t_put_otherwise E C_Nothing { nx := fun _ h' => fgR R .non h', rt := fgR R } (astart N_put_otherwise ds) h) :
    FnG gd P w K mg base 4 f fd ["program", "world", "order"] (upSp P w K (sp_put_otherwise C_Nothing)) := by
  refine afn (k := 3) F sc_put_otherwise len fun cdv A outer s H W ds h R E hr hG hsp tk => ⟨t_put_otherwise E C_Nothing, ?_, pure_ ds h R E hsp⟩
  have hx : XPass _ E := xpass tk
  have HP : PassesOwn (model P w) (A.deeper (envOfC "put_otherwise" (defScope s_put_otherwise) s.heap.objs.size f cdv)) (envOfC "put_otherwise" (defScope s_put_otherwise) s.heap.objs.size f cdv) (cxOf (L2.CX P w) P w K mg base N_put_otherwise "put_otherwise" (defScope s_put_otherwise) f cdv A outer s H W).xe := passes_of (X := cxOf (L2.CX P w) P w K mg base N_put_otherwise "put_otherwise" (defScope s_put_otherwise) f cdv A outer s H W) rfl
  exact (b_cons (s_asg (e_var (pv 1)) (g_tup (by rfl) (gs_cons (g_name (i := 3) sc_put_otherwise.nd rfl (by first | exact Or.inl rfl | exact Or.inr rfl)) (gs_cons (g_name (i := 4) sc_put_otherwise.nd rfl (by first | exact Or.inl rfl | exact Or.inr rfl)) (gs_cons (g_name (i := 5) sc_put_otherwise.nd rfl (by first | exact Or.inl rfl | exact Or.inr rfl)) (gs_cons (g_name (i := 6) sc_put_otherwise.nd rfl (by first | exact Or.inl rfl | exact Or.inr rfl)) (gs_cons (g_name (i := 7) sc_put_otherwise.nd rfl (by first | exact Or.inl rfl | exact Or.inr rfl)) gs_nil)))))))
    (b_cons (s_if (PW.pt (w_or (t_not (t_val (e_cal c_are_indexes hr hG (by rfl) xpass0 (a_cons (e_var (pv 2)) a_nil)) (by intro _; rfl))) (w_or1 (t_fg (t_cmp (o_ne hr.units) (e_call (call_sorted hr.units) (by rfl) z_sorted boot_sorted (a_cons (e_var (pv 2)) a_nil)) (e_listRg rfl (by rfl) z_list (by rfl) z_range (e_var (pv 3))) (by first | exact nomark _ | rfl)))))) (b_one (s_raise0 x_Nothing (by rfl) rfl tk)) b_nil)
    (b_cons (s_set (i := 8) sc_put_otherwise.nd rfl (by first | exact Or.inl rfl | exact Or.inr rfl) (e_lst a_nil))
    (b_cons (s_for HP (by rfl) (i_zip (by rfl) z_zip (a_cons (e_ix (e_var (pv 0)) e_int) (a_cons (e_var (pv 7)) a_nil))) (g_tup (by rfl) (gs_cons (g_name (i := 9) sc_put_otherwise.nd rfl (by first | exact Or.inl rfl | exact Or.inr rfl)) (gs_cons (g_tup (by rfl) (gs_cons (g_name (i := 10) sc_put_otherwise.nd rfl (by first | exact Or.inl rfl | exact Or.inr rfl)) (gs_cons (g_name (i := 11) sc_put_otherwise.nd rfl (by first | exact Or.inl rfl | exact Or.inr rfl)) gs_nil))) gs_nil))) (b_one (s_expr (e_fg (e_m PySem.F.plainAttrs_list PySem.F.slot_list_append PySem.F.type_list_append m_append (e_var (pv 8)) (a_cons (e_tup (a_cons (e_fg (e_callT call_tuple (by rfl) z_tuple boot_tuple (a_cons (e_call (call_sorted hr.units) (by rfl) z_sorted boot_sorted (a_cons (e_lc (scope := SC_put_otherwise_0) (own := [("row", 12)]) (us := [12]) (l := false) (g := (aName 12)) (tt := aYes) (by rfl) sc_put_otherwise.nd (i_seq (e_var (pv 10))) (by exact blkOk_by (N := N_put_otherwise) (sc := (defScope s_put_otherwise)) (scope := SC_put_otherwise_0) (own := [("row", 12)]) (by decide +kernel)) (fun _ _ _ _ _ => (g_name (i := 12) sc_put_otherwise.nd rfl (by first | exact Or.inl rfl | exact Or.inr rfl))) (fun _ _ _ _ _ => ts_nil) (fun _ _ _ _ _ => (e_cal c_row_otherwise hr hG (by rfl) xpass0 (a_cons (e_var (pv 9)) (a_cons (e_var (pv 2)) (a_cons (e_var (pv 12)) a_nil))))) (by decide)) a_nil)) a_nil))) (a_cons (e_ix (e_var (pv 2)) (e_var (pv 11))) a_nil))) a_nil))))))
    (b_cons (s_setLc (X := cxOf (L2.CX P w) P w K mg base N_put_otherwise "put_otherwise" (defScope s_put_otherwise) f cdv A outer s H W) (i := 13) (scope := SC_put_otherwise_1) (own := [("lot", 15)]) (us := [15]) (l := false) (g := (aName 15)) (tt := aYes) (by rfl) sc_put_otherwise.nd rfl (by rfl) (by rfl) (i_seq (e_tup (a_cons (e_var (pv 4)) (a_cons (e_var (pv 5)) (a_cons (e_var (pv 6)) a_nil))))) (by exact blkOk_by (N := N_put_otherwise) (sc := (defScope s_put_otherwise)) (scope := SC_put_otherwise_1) (own := [("lot", 15)]) (by decide +kernel)) (fun _ _ _ _ _ => (g_name (i := 15) sc_put_otherwise.nd rfl (by first | exact Or.inl rfl | exact Or.inr rfl))) (fun _ _ _ _ _ => ts_nil) (fun _ _ _ _ _ => (e_fg (e_callT call_tuple (by rfl) z_tuple boot_tuple (a_cons (e_lc (scope := SC_put_otherwise_2) (own := [("worth", 14)]) (us := [14]) (l := false) (g := (aName 14)) (tt := aYes) (by rfl) sc_put_otherwise.nd (i_seq (e_var (pv 15))) (by exact blkOk_by (N := N_put_otherwise) (sc := SC_put_otherwise_1r) (scope := SC_put_otherwise_2) (own := [("worth", 14)]) (by decide +kernel)) (fun _ _ _ _ _ => (g_name (i := 14) sc_put_otherwise.nd rfl (by first | exact Or.inl rfl | exact Or.inr rfl))) (fun _ _ _ _ _ => ts_nil) (fun _ _ _ _ _ => (e_ix (e_var (pv 2)) (e_var (pv 14)))) (by decide)) a_nil)))) (by decide))
    (b_one (s_ret (e_tup (a_cons (e_var (pv 3)) (a_cons (e_ix (e_var (pv 13)) e_int) (a_cons (e_ix (e_var (pv 13)) e_int) (a_cons (e_ix (e_var (pv 13)) e_int) (a_cons (e_callT call_tuple (by rfl) z_tuple boot_tuple (a_cons (e_var (pv 8)) a_nil)) a_nil)))))))))))))
def leastT (t : Tab) : Tab := (t.1.filter fun r => decide (r.2 ≠ t.2), t.2)
def leastW (w : Wld) : Wld := { w with tabs := w.tabs.map leastT }
def sp_least_world : ASp := fun ds h R _ => ∃ P w, ds = [eP P, eW w] ∧ WSz w ∧ R (eW (leastW w)) h
abbrev s_least_world : Stmt := topS 28
def N_least_world : List Str := ["program", "world", "functions", "row", "rows", "rest"]
theorem sc_least_world : FnScope N_least_world ["program", "world"] (defScope s_least_world) := ⟨rfl, rfl, rfl, by decide +kernel, rfl, by decide +kernel, by decide +kernel⟩
def SC_least_world_0r : Scope := { kind := .function, names := [ (PySem.Str.ofString ".0", PySem.NameKind.local), (PySem.Str.ofString "rows", PySem.NameKind.local), (PySem.Str.ofString "rest", PySem.NameKind.cell), (PySem.Str.ofString "tuple", PySem.NameKind.globalImplicit)], isGenerator := false, isCoroutine := false, more := [] }
def SC_least_world_0 : Scope := { kind := .function, names := [ (PySem.Str.ofString ".0", PySem.NameKind.local), (PySem.Str.ofString "rows", PySem.NameKind.local), (PySem.Str.ofString "rest", PySem.NameKind.cell), (PySem.Str.ofString "tuple", PySem.NameKind.globalImplicit)], isGenerator := false, isCoroutine := false, more := [] }
def SC_least_world_1r : Scope := { kind := .function, names := [ (PySem.Str.ofString ".0", PySem.NameKind.local), (PySem.Str.ofString "row", PySem.NameKind.local), (PySem.Str.ofString "rest", PySem.NameKind.cell)], isGenerator := false, isCoroutine := false, more := [] }
def SC_least_world_1 : Scope := { kind := .function, names := [ (PySem.Str.ofString ".0", PySem.NameKind.local), (PySem.Str.ofString "row", PySem.NameKind.local), (PySem.Str.ofString "rest", PySem.NameKind.free)], isGenerator := false, isCoroutine := false, more := [] }
def t_least_world : AS :=
  (aSeq (aSet 2 (aFg (aCB cTuple (aCons (aLc (iSeq (aOp rIx (aVar 1) (aC (.int 4)))) (aGTup 2 (aGCons (aName 4) (aGCons (aName 5) aGNil))) aYes (aTup (aCons (aFg (aCB cTuple (aCons (aLc (iSeq (aVar 4)) (aName 3) (aTest (aOp rNe (aOp rIx (aVar 3) (aC (.int 1))) (aVar 5))) (aVar 3) [3]) aNil))) (aCons (aVar 5) aNil))) [4, 5]) aNil))))
    (aRet (aOp rAdd (aSl (aVar 1) aNoPart (aPart (aC (.int 4)))) (aTup (aCons (aVar 2) aNil)))))
theorem ok_least_world {gd : Prop} {P : Program} {w : World} {K : PySem.W.Frag} {mg : Str → Option Value} {base : Heap} {f : Addr} {fd : FuncData} (F : FnP K "least_world" s_least_world f fd) (z_tuple : mg "tuple" = none)
    (len : ∀ ds h R E, sp_least_world ds h R E → ds.length = 2) (pure_ : ∀ ds h R E, sp_least_world ds h R E → t_least_world { nx := fun _ h' => fgR R .non h', rt := fgR R } (astart N_least_world ds) h) :
    FnG gd P w K mg base 1 f fd ["program", "world"] (upSp P w K sp_least_world) := by
  refine afn (k := 0) F sc_least_world len fun cdv A outer s H W ds h R E hr hG hsp tk => ⟨t_least_world, ?_, pure_ ds h R E hsp⟩
  exact (b_cons (s_set (i := 2) sc_least_world.nd rfl (by first | exact Or.inl rfl | exact Or.inr rfl) (e_fg (e_callT call_tuple (by rfl) z_tuple boot_tuple (a_cons (e_lc (scope := SC_least_world_0) (own := [("rows", 4), ("rest", 5)]) (us := [4, 5]) (l := false) (g := (aGTup 2 (aGCons (aName 4) (aGCons (aName 5) aGNil)))) (tt := aYes) (by rfl) sc_least_world.nd (i_seq (e_ix (e_var (pv 1)) e_int)) (by exact blkOk_by (N := N_least_world) (sc := (defScope s_least_world)) (scope := SC_least_world_0) (own := [("rows", 4), ("rest", 5)]) (by decide +kernel)) (fun _ _ _ _ _ => (g_tup (by rfl) (gs_cons (g_name (i := 4) sc_least_world.nd rfl (by first | exact Or.inl rfl | exact Or.inr rfl)) (gs_cons (g_name (i := 5) sc_least_world.nd rfl (by first | exact Or.inl rfl | exact Or.inr rfl)) gs_nil)))) (fun _ _ _ _ _ => ts_nil) (fun _ _ _ _ _ => (e_tup (a_cons (e_fg (e_callT call_tuple (by rfl) z_tuple boot_tuple (a_cons (e_lc (scope := SC_least_world_1) (own := [("row", 3)]) (us := [3]) (l := false) (g := (aName 3)) (tt := (aTest (aOp rNe (aOp rIx (aVar 3) (aC (.int 1))) (aVar 5)))) (by rfl) sc_least_world.nd (i_seq (e_var (pv 4))) (by exact blkOk_by (N := N_least_world) (sc := SC_least_world_0r) (scope := SC_least_world_1) (own := [("row", 3)]) (by decide +kernel)) (fun _ _ _ _ _ => (g_name (i := 3) sc_least_world.nd rfl (by first | exact Or.inl rfl | exact Or.inr rfl))) (fun _ _ _ _ _ => (ts_one (t_cmp (o_ne hr.units) (e_ix (e_var (pv 3)) e_int) (e_var (pv 5)) (by first | exact nomark _ | rfl)))) (fun _ _ _ _ _ => (e_var (pv 3))) (by decide)) a_nil))) (a_cons (e_var (pv 5)) a_nil)))) (by decide)) a_nil))))
    (b_one (s_ret (e_op o_add (e_sl (e_var (pv 1)) p_none (p_some e_int)) (e_tup (a_cons (e_var (pv 2)) a_nil))))))
/-! ## the law's own -/
/-- all but b stays -/
def BagAt (h : AH) (b a : Addr) : Prop := ∃ (x y z : Int) (cs : List Int), h b = some (.lst [.int x, .int y, .int z, .ref a]) ∧ a ≠ b ∧ h a = some (.lst (cs.map D.int)) ∧ 0 ≤ x ∧ 0 ≤ y ∧ 0 ≤ z ∧ (∀ c ∈ cs, 0 ≤ c) ∧ cs.length ≤ 64
def Bag (h : AH) (b : Addr) : Prop := ∃ a, BagAt h b a
def Fr1 (b : Addr) (h h' : AH) : Prop := (∀ c o, c ≠ b → h c = some o → h' c = some o) ∧ ∀ a, BagAt h b a → BagAt h' b a
def sp__law_take : ASp := fun ds h R _ => ∃ b m, ds = [.ref b, .int m] ∧ 0 < m ∧ m < 1073741824 ∧ Bag h b ∧ ∀ v h', 0 ≤ v → v < m → Bag h' b → Fr1 b h h' → R (.int v) h'
abbrev s__law_take : Stmt := topS 31
def N__law_take : List Str := ["bag", "many", "cell", "stirred", "value", "begin", "second"]
theorem sc__law_take : FnScope N__law_take ["bag", "many"] (defScope s__law_take) := ⟨rfl, rfl, rfl, by decide +kernel, rfl, by decide +kernel, by decide +kernel⟩
def t__law_take : AS :=
  (aSeq (aIfS (aTest (aOp rEq (aOp rIx (aVar 0) (aC (.int 0))) (aC (.int 0)))) (aSeq (aSet 2 (aFg (aOp rIx (aOp rAdd (aSl (aOp rIx (aVar 0) (aC (.int 3))) (aPart (aOp rIx (aVar 0) (aC (.int 2)))) aNoPart) (aLst (aCons (aC (.int 0)) aNil))) (aC (.int 0)))))
    (aSeq (aAugSub (aVar 0) (aC (.int 2)) (aC (.int 1)))
    (aSeq (aIfS (aTest (aOp (rI2 (fun _ _ => True) fun i j => .bl (decide (j ≤ i))) (aVar 2) (aOp (rI2 CPow fun i j => .int (i ^ j.toNat)) (aC (.int 10)) (aC (.int 18))))) (aAsg (aVar 2) (aGSub (aVar 0) (aC (.int 0)))) aNext)
    (aSeq (aSet 3 (aOp rAdd (aOp rAdd (aOp rMul (aOp rIx (aVar 0) (aC (.int 1))) (aC (.int 48271))) (aOp (rI2 (fun _ j => j ≠ 0) fun i j => .int (i.fmod j)) (aCB cInt (aCons (aVar 2) aNil)) (aC (.int 2147483647)))) (aOp rMul (aC (.int 7919)) (aOp rIx (aVar 0) (aC (.int 2))))))
    (aAsg (aOp (rI2 (fun _ j => j ≠ 0) fun i j => .int (i.fmod j)) (aCB cInt (aCons (aVar 3) aNil)) (aC (.int 2147483647))) (aGSub (aVar 0) (aC (.int 1)))))))) aNext)
    (aSeq (aIfS (aTest (aOp (rI2 (fun _ _ => True) fun i j => .bl (decide (j < i))) (aOp rIx (aVar 0) (aC (.int 0))) (aC (.int 0)))) (aSeq (aSet 4 (aOp (rI2 (fun _ j => j ≠ 0) fun i j => .int (i.fmod j)) (aCB cInt (aCons (aOp rIx (aVar 0) (aC (.int 0))) aNil)) (aVar 1)))
    (aSeq (aAsg (aOp (rI2 CDivN fun i j => .int (i.fdiv j)) (aCB cInt (aCons (aOp rIx (aVar 0) (aC (.int 0))) aNil)) (aVar 1)) (aGSub (aVar 0) (aC (.int 0))))
    (aRet (aVar 4)))) aNext)
    (aSeq (aSet 5 (aOp (rI2 (fun _ j => j ≠ 0) fun i j => .int (i.fmod j)) (aCB cInt (aCons (aOp rMul (aOp rAdd (aOp rIx (aVar 0) (aC (.int 1))) (aC (.int 1))) (aC (.int 39373))) aNil)) (aC (.int 1000000007))))
    (aSeq (aSet 6 (aOp (rI2 (fun _ j => j ≠ 0) fun i j => .int (i.fmod j)) (aCB cInt (aCons (aOp rMul (aOp (rI2 (fun _ j => j ≠ 0) fun i j => .int (i.fmod j)) (aCB cInt (aCons (aOp rMul (aVar 5) (aVar 5)) aNil)) (aC (.int 998244353))) (aC (.int 30011))) aNil)) (aC (.int 998244353))))
    (aRet (aOp (rI2 (fun _ j => j ≠ 0) fun i j => .int (i.fmod j)) (aCB cInt (aCons (aOp (rI2 CDivN fun i j => .int (i.fdiv j)) (aVar 6) (aC (.int 7))) aNil)) (aVar 1)))))))
theorem ok__law_take {gd : Prop} {P : Program} {w : World} {K : PySem.W.Frag} {mg : Str → Option Value} {base : Heap} {f : Addr} {fd : FuncData} (F : FnP K "_law_take" s__law_take f fd) (z_int : mg "int" = none)
    (len : ∀ ds h R E, sp__law_take ds h R E → ds.length = 2) (pure_ : ∀ ds h R E, sp__law_take ds h R E → t__law_take { nx := fun _ h' => fgR R .non h', rt := fgR R } (astart N__law_take ds) h) :
    FnG gd P w K mg base 1 f fd ["bag", "many"] (upSp P w K sp__law_take) := by
  refine afn (k := 0) F sc__law_take len fun cdv A outer s H W ds h R E hr hG hsp tk => ⟨t__law_take, ?_, pure_ ds h R E hsp⟩
  exact (b_cons (s_if (t_cmp (o_eq hr.units) (e_ix (e_var (pv 0)) e_int) e_int (by first | exact nomark _ | rfl)) (b_cons (s_set (i := 2) sc__law_take.nd rfl (by first | exact Or.inl rfl | exact Or.inr rfl) (e_fg (e_ix (e_op o_add (e_sl (e_ix (e_var (pv 0)) e_int) (p_some (e_ix (e_var (pv 0)) e_int)) p_none) (e_lst (a_cons e_int a_nil))) e_int)))
    (b_cons (s_augSub (e_var (pv 0)) e_int e_int)
    (b_cons (s_if (t_cmp o_geI (e_var (pv 2)) (e_op o_pow e_int e_int) (by first | exact nomark _ | rfl)) (b_one (s_asg (e_var (pv 2)) (g_sub (e_var (pv 0)) e_int))) b_nil)
    (b_cons (s_set (i := 3) sc__law_take.nd rfl (by first | exact Or.inl rfl | exact Or.inr rfl) (e_op o_add (e_op o_add (e_op o_mul (e_ix (e_var (pv 0)) e_int) e_int) (e_op o_mod (e_callT call_int (by rfl) z_int boot_int (a_cons (e_var (pv 2)) a_nil)) e_int)) (e_op o_mul e_int (e_ix (e_var (pv 0)) e_int))))
    (b_one (s_asg (e_op o_mod (e_callT call_int (by rfl) z_int boot_int (a_cons (e_var (pv 3)) a_nil)) e_int) (g_sub (e_var (pv 0)) e_int))))))) b_nil)
    (b_cons (s_if (t_cmp o_gtI (e_ix (e_var (pv 0)) e_int) e_int (by first | exact nomark _ | rfl)) (b_cons (s_set (i := 4) sc__law_take.nd rfl (by first | exact Or.inl rfl | exact Or.inr rfl) (e_op o_mod (e_callT call_int (by rfl) z_int boot_int (a_cons (e_ix (e_var (pv 0)) e_int) a_nil)) (e_var (pv 1))))
    (b_cons (s_asg (e_op o_fdiv (e_callT call_int (by rfl) z_int boot_int (a_cons (e_ix (e_var (pv 0)) e_int) a_nil)) (e_var (pv 1))) (g_sub (e_var (pv 0)) e_int))
    (b_one (s_ret (e_var (pv 4)))))) b_nil)
    (b_cons (s_set (i := 5) sc__law_take.nd rfl (by first | exact Or.inl rfl | exact Or.inr rfl) (e_op o_mod (e_callT call_int (by rfl) z_int boot_int (a_cons (e_op o_mul (e_op o_add (e_ix (e_var (pv 0)) e_int) e_int) e_int) a_nil)) e_int))
    (b_cons (s_set (i := 6) sc__law_take.nd rfl (by first | exact Or.inl rfl | exact Or.inr rfl) (e_op o_mod (e_callT call_int (by rfl) z_int boot_int (a_cons (e_op o_mul (e_op o_mod (e_callT call_int (by rfl) z_int boot_int (a_cons (e_op o_mul (e_var (pv 5)) (e_var (pv 5))) a_nil)) e_int) e_int) a_nil)) e_int))
    (b_one (s_ret (e_op o_mod (e_callT call_int (by rfl) z_int boot_int (a_cons (e_op o_fdiv (e_var (pv 6)) e_int) a_nil)) (e_var (pv 1)))))))))
def sp__law_some : ASp := fun ds h R _ => ∃ b x xs, ds = [.ref b, x] ∧ x ≠ .ref b ∧ Bag h b ∧ seqOf h x = some xs ∧ xs ≠ [] ∧ xs.length < 1073741824 ∧ ∀ d h', d ∈ xs → Bag h' b → Fr1 b h h' → R d h'
abbrev s__law_some : Stmt := topS 32
def N__law_some : List Str := ["bag", "things"]
theorem sc__law_some : FnScope N__law_some ["bag", "things"] (defScope s__law_some) := ⟨rfl, rfl, rfl, by decide +kernel, rfl, by decide +kernel, by decide +kernel⟩
def t__law_some : AS :=
  (aRet (aOp rIx (aVar 1) (aCall sp__law_take AX0 (aCons (aVar 0) (aCons (aCB cLen (aCons (aVar 1) aNil)) aNil)))))
theorem ok__law_some {gd : Prop} {P : Program} {w : World} {K : PySem.W.Frag} {mg : Str → Option Value} {base : Heap} {f : Addr} {fd : FuncData} (F : FnP K "_law_some" s__law_some f fd) (c__law_take : Cal gd P w K mg base 1 "_law_take" ["bag", "many"] sp__law_take) (z_len : mg "len" = none)
    (len : ∀ ds h R E, sp__law_some ds h R E → ds.length = 2) (pure_ : ∀ ds h R E, sp__law_some ds h R E → t__law_some { nx := fun _ h' => fgR R .non h', rt := fgR R } (astart N__law_some ds) h) :
    FnG gd P w K mg base 2 f fd ["bag", "things"] (upSp P w K sp__law_some) := by
  refine afn (k := 1) F sc__law_some len fun cdv A outer s H W ds h R E hr hG hsp tk => ⟨t__law_some, ?_, pure_ ds h R E hsp⟩
  exact (b_one (s_ret (e_ix (e_var (pv 1)) (e_cal c__law_take hr hG (by rfl) xpass0 (a_cons (e_var (pv 0)) (a_cons (e_call call_len (by rfl) z_len boot_len (a_cons (e_var (pv 1)) a_nil)) a_nil))))))
def sp__law_mixed : ASp := fun ds h R _ => ∃ b a xs, ds = [.ref b, .ref a] ∧ a ≠ b ∧ Bag h b ∧ h a = some (.lst xs) ∧ xs.length < 1000 ∧ ∀ ys p h', ys.Perm xs → Bag h' b → Fr1 b h h' → h p = none → h' p = some (.lst ys) → R (.ref p) h'
abbrev s__law_mixed : Stmt := topS 33
def N__law_mixed : List Str := ["bag", "things", "found", "thing"]
theorem sc__law_mixed : FnScope N__law_mixed ["bag", "things"] (defScope s__law_mixed) := ⟨rfl, rfl, rfl, by decide +kernel, rfl, by decide +kernel, by decide +kernel⟩
def t__law_mixed : AS :=
  (aSeq (aSet 2 (aLst aNil))
    (aSeq (aFor (iSeq (aVar 1)) (aName 3) (aDrop (aM "list" mInsert (aVar 2) (aCons (aCall sp__law_take AX0 (aCons (aVar 0) (aCons (aOp rAdd (aCB cLen (aCons (aVar 2) aNil)) (aC (.int 1))) aNil))) (aCons (aVar 3) aNil)))))
    (aRet (aVar 2))))
theorem ok__law_mixed {gd : Prop} {P : Program} {w : World} {K : PySem.W.Frag} {mg : Str → Option Value} {base : Heap} {f : Addr} {fd : FuncData} (F : FnP K "_law_mixed" s__law_mixed f fd) (c__law_take : Cal gd P w K mg base 1 "_law_take" ["bag", "many"] sp__law_take) (z_len : mg "len" = none)
    (len : ∀ ds h R E, sp__law_mixed ds h R E → ds.length = 2) (pure_ : ∀ ds h R E, sp__law_mixed ds h R E → t__law_mixed { nx := fun _ h' => fgR R .non h', rt := fgR R } (astart N__law_mixed ds) h) :
    FnG gd P w K mg base 2 f fd ["bag", "things"] (upSp P w K sp__law_mixed) := by
  refine afn (k := 1) F sc__law_mixed len fun cdv A outer s H W ds h R E hr hG hsp tk => ⟨t__law_mixed, ?_, pure_ ds h R E hsp⟩
  have HP : PassesOwn (model P w) (A.deeper (envOfC "_law_mixed" (defScope s__law_mixed) s.heap.objs.size f cdv)) (envOfC "_law_mixed" (defScope s__law_mixed) s.heap.objs.size f cdv) (cxOf (L2.CX P w) P w K mg base N__law_mixed "_law_mixed" (defScope s__law_mixed) f cdv A outer s H W).xe := passes_of (X := cxOf (L2.CX P w) P w K mg base N__law_mixed "_law_mixed" (defScope s__law_mixed) f cdv A outer s H W) rfl
  exact (b_cons (s_set (i := 2) sc__law_mixed.nd rfl (by first | exact Or.inl rfl | exact Or.inr rfl) (e_lst a_nil))
    (b_cons (s_for HP (by rfl) (i_seq (e_var (pv 1))) (g_name (i := 3) sc__law_mixed.nd rfl (by first | exact Or.inl rfl | exact Or.inr rfl)) (b_one (s_expr (e_m PySem.F.plainAttrs_list PySem.F.slot_list_insert PySem.F.type_list_insert m_insert (e_var (pv 2)) (a_cons (e_cal c__law_take hr hG (by rfl) xpass0 (a_cons (e_var (pv 0)) (a_cons (e_op o_add (e_call call_len (by rfl) z_len boot_len (a_cons (e_var (pv 2)) a_nil)) e_int) a_nil))) (a_cons (e_var (pv 3)) a_nil))))))
    (b_one (s_ret (e_var (pv 2))))))

mutual
def itP : PyData → Bool
  | .int i => decide (0 ≤ i ∧ i < 10)
  | .tuple xs => itPs xs
  | _ => false
def itPs : List PyData → Bool
  | [] => true
  | x :: xs => itP x && itPs xs
end
structure Shows (d : D) : Prop where
  ok : okd 60 d = true
  it : itP (toP d) = true
  wt : (toP d).weight ≤ 2 ^ 20
def sp__law_alike : ASp := fun ds h R _ => ∃ d, ds = [d, d] ∧ Shows d ∧ R (.bl true) h
abbrev s__law_alike : Stmt := topS 34
def N__law_alike : List Str := ["found", "due"]
theorem sc__law_alike : FnScope N__law_alike ["found", "due"] (defScope s__law_alike) := ⟨rfl, rfl, rfl, by decide +kernel, rfl, by decide +kernel, by decide +kernel⟩
def t__law_alike : AS :=
  (aRet (aAndV (aOp rEq (aCB cRepr (aCons (aVar 0) aNil)) (aCB cRepr (aCons (aVar 1) aNil))) (aOp rEq (aVar 0) (aVar 1))))
theorem ok__law_alike {P : Program} {w : World} {K : PySem.W.Frag} {mg : Str → Option Value} {base : Heap} {f : Addr} {fd : FuncData} (F : FnP K "_law_alike" s__law_alike f fd) (z_repr : mg "repr" = none)
    (len : ∀ ds h R E, sp__law_alike ds h R E → ds.length = 2) (pure_ : ∀ ds h R E, sp__law_alike ds h R E → t__law_alike { nx := fun _ h' => fgR R .non h', rt := fgR R } (astart N__law_alike ds) h) :
    FnG True P w K mg base 1 f fd ["found", "due"] (upSp P w K sp__law_alike) := by
  refine afn (k := 0) F sc__law_alike len fun cdv A outer s H W ds h R E hr hG hsp tk => ⟨t__law_alike, ?_, pure_ ds h R E hsp⟩
  exact (b_one (s_ret (e_and (e_cmp (o_eq hr.units) (e_call (call_repr hr.units (hG trivial)) (by rfl) z_repr boot_repr (a_cons (e_var (pv 0)) a_nil)) (e_call (call_repr hr.units (hG trivial)) (by rfl) z_repr boot_repr (a_cons (e_var (pv 1)) a_nil)) (by first | exact nomark _ | rfl)) (e_one (e_cmp (o_eq hr.units) (e_var (pv 0)) (e_var (pv 1)) (by first | exact nomark _ | rfl))))))
def longer (ks : List (List Int)) (m : Int) (how : Str) : List (List Int) := ks.flatMap fun k => (((List.range m.toNat).map fun i => ((i : Nat) : Int)).filter fun w => decide (how = "told") || decide (k = []) || decide (k.getLast?.getD 0 ≤ w)).map fun w => k ++ [w]
def sp__law_longer : ASp := fun ds h R _ => ∃ a ks m how, ds = [.ref a, .int m, .str how] ∧ h a = some (.lst (ks.map eI)) ∧ PyData.strOk how = true ∧ 0 ≤ m ∧ m ≤ 100 ∧ ks.length ≤ 10000 ∧ (∀ k ∈ ks, k.length ≤ 100) ∧ ∀ p, h p = none → R (.ref p) (aup h p (.lst ((longer ks m how).map eI)))
abbrev s__law_longer : Stmt := topS 36
def N__law_longer : List Str := ["keys", "many", "how", "found", "key", "w"]
theorem sc__law_longer : FnScope N__law_longer ["keys", "many", "how"] (defScope s__law_longer) := ⟨rfl, rfl, rfl, by decide +kernel, rfl, by decide +kernel, by decide +kernel⟩
def SC__law_longer_0r : Scope := { kind := .function, names := [ (PySem.Str.ofString ".0", PySem.NameKind.local), (PySem.Str.ofString "w", PySem.NameKind.local), (PySem.Str.ofString "how", PySem.NameKind.cell), (PySem.Str.ofString "key", PySem.NameKind.cell)], isGenerator := false, isCoroutine := false, more := [] }
def SC__law_longer_0 : Scope := { kind := .function, names := [ (PySem.Str.ofString ".0", PySem.NameKind.local), (PySem.Str.ofString "w", PySem.NameKind.local), (PySem.Str.ofString "how", PySem.NameKind.free), (PySem.Str.ofString "key", PySem.NameKind.free)], isGenerator := false, isCoroutine := false, more := [] }
def t__law_longer : AS :=
  (aSeq (aSet 3 (aLst aNil))
    (aSeq (aFor (iSeq (aVar 0)) (aName 4) (aDrop (aFg (aM "list" mExtend (aVar 3) (aCons (aLc (iRg1 (aCons (aVar 1) aNil)) (aName 5) (aOr (aTest (aOp rEq (aVar 2) (aC (.str "told")))) (aOr (aTest (aOp rEq (aVar 4) (aTup aNil))) (aTest (aOp (rI2 (fun _ _ => True) fun i j => .bl (decide (j ≤ i))) (aVar 5) (aOp rIx (aVar 4) (aNeg (aC (.int 1)))))))) (aOp rAdd (aVar 4) (aTup (aCons (aVar 5) aNil))) [5]) aNil)))))
    (aRet (aVar 3))))
theorem ok__law_longer {gd : Prop} {P : Program} {w : World} {K : PySem.W.Frag} {mg : Str → Option Value} {base : Heap} {f : Addr} {fd : FuncData} (F : FnP K "_law_longer" s__law_longer f fd) (z_range : mg "range" = none)
    (len : ∀ ds h R E, sp__law_longer ds h R E → ds.length = 3) (pure_ : ∀ ds h R E, sp__law_longer ds h R E → t__law_longer { nx := fun _ h' => fgR R .non h', rt := fgR R } (astart N__law_longer ds) h) :
    FnG gd P w K mg base 1 f fd ["keys", "many", "how"] (upSp P w K sp__law_longer) := by
  refine afn (k := 0) F sc__law_longer len fun cdv A outer s H W ds h R E hr hG hsp tk => ⟨t__law_longer, ?_, pure_ ds h R E hsp⟩
  have HP : PassesOwn (model P w) (A.deeper (envOfC "_law_longer" (defScope s__law_longer) s.heap.objs.size f cdv)) (envOfC "_law_longer" (defScope s__law_longer) s.heap.objs.size f cdv) (cxOf (L2.CX P w) P w K mg base N__law_longer "_law_longer" (defScope s__law_longer) f cdv A outer s H W).xe := passes_of (X := cxOf (L2.CX P w) P w K mg base N__law_longer "_law_longer" (defScope s__law_longer) f cdv A outer s H W) rfl
  exact (b_cons (s_set (i := 3) sc__law_longer.nd rfl (by first | exact Or.inl rfl | exact Or.inr rfl) (e_lst a_nil))
    (b_cons (s_for HP (by rfl) (i_seq (e_var (pv 0))) (g_name (i := 4) sc__law_longer.nd rfl (by first | exact Or.inl rfl | exact Or.inr rfl)) (b_one (s_expr (e_fg (e_m PySem.F.plainAttrs_list PySem.F.slot_list_extend PySem.F.type_list_extend m_extend (e_var (pv 3)) (a_cons (e_lc (scope := SC__law_longer_0) (own := [("w", 5)]) (us := [5]) (l := false) (g := (aName 5)) (tt := (aOr (aTest (aOp rEq (aVar 2) (aC (.str "told")))) (aOr (aTest (aOp rEq (aVar 4) (aTup aNil))) (aTest (aOp (rI2 (fun _ _ => True) fun i j => .bl (decide (j ≤ i))) (aVar 5) (aOp rIx (aVar 4) (aNeg (aC (.int 1))))))))) (by rfl) sc__law_longer.nd (i_range1 (by rfl) z_range (a_cons (e_var (pv 1)) a_nil)) (by exact blkOk_by (N := N__law_longer) (sc := (defScope s__law_longer)) (scope := SC__law_longer_0) (own := [("w", 5)]) (by decide +kernel)) (fun _ _ _ _ _ => (g_name (i := 5) sc__law_longer.nd rfl (by first | exact Or.inl rfl | exact Or.inr rfl))) (fun _ _ _ _ _ => (ts_one (PW.pt (w_or (t_cmp (o_eq hr.units) (e_var (pv 2)) e_str (by first | exact nomark _ | rfl)) (w_or (t_cmp (o_eq hr.units) (e_var (pv 4)) (e_tup a_nil) (by first | exact nomark _ | rfl)) (w_or1 (t_cmp o_geI (e_var (pv 5)) (e_ix (e_var (pv 4)) (e_neg e_int)) (by first | exact nomark _ | rfl)))))))) (fun _ _ _ _ _ => (e_op o_add (e_var (pv 4)) (e_tup (a_cons (e_var (pv 5)) a_nil)))) (by decide)) a_nil))))))
    (b_one (s_ret (e_var (pv 3))))))
/-- a right table -/
structure TOk (m : Int) (f : Fnc) (t : Tab) : Prop where
  keys : ∀ r ∈ t.1, (r.1.length = f.p ∧ (∀ k ∈ r.1, 0 ≤ k ∧ k < m) ∧ (f.how = "either" → r.1.getD 0 0 ≤ r.1.getD 1 0)) ∧ 0 ≤ r.2 ∧ r.2 < m
  up : rising t.1 = true
  rest : 0 ≤ t.2 ∧ t.2 < m
  sz : t.1.length ≤ 1000
def fF : Fnc := ⟨"f", 1, "told"⟩
def gF : Fnc := ⟨"g", 2, "either"⟩
def hF : Fnc := ⟨"h", 2, "told"⟩
def kF : Fnc := ⟨"k", 3, "told"⟩
def FsOk (fs : List Fnc) : Prop := ∃ l, l.Sublist [fF, gF, hF] ∧ fs = l ++ [kF]
structure POk (P : Prg) : Prop where
  fs : FsOk P.fs
  letters : ∃ n, 1 ≤ n ∧ n ≤ 3 ∧ P.letters = (["nil", "yes", "zed"] : List Str).take n
  vars : ∃ n, 2 ≤ n ∧ n ≤ 4 ∧ P.vars = (["a", "b", "c", "d"] : List Str).take n
  inputs : P.inputs.Sublist P.vars
structure WOk (P : Prg) (m : Int) (w : Wld) : Prop where
  many : w.many = m
  ll : w.letters.length = P.letters.length
  ln : w.letters.Nodup
  lb : ∀ k ∈ w.letters, 0 ≤ k ∧ k < m
  il : w.inputs.length = P.inputs.length
  ib : ∀ k ∈ w.inputs, 0 ≤ k ∧ k < m
  al : w.anys.length ≤ 100
  ab : ∀ k ∈ w.anys, 0 ≤ k ∧ k < m
  tl : w.tabs.length = P.fs.length
  tb : ∀ (i : Nat) (f : Fnc) (t : Tab), P.fs[i]? = some f → w.tabs[i]? = some t → TOk m f t
def sp__law_world : ASp := fun ds h R _ => ∃ b P m k, ds = [.ref b, eP P, .int m, .int k] ∧ Bag h b ∧ POk P ∧ (P.letters.length : Int) < m ∧ m ≤ 6 ∧ 0 ≤ k ∧ k ≤ 100 ∧ ∀ w h', WOk P m w → Bag h' b → Fr1 b h h' → R (eW w) h'
abbrev s__law_world : Stmt := topS 35
def N__law_world : List Str := ["bag", "program", "many", "anys", "letters", "functions", "f", "parts", "how", "rows", "keys", "k", "key", "inputs", "x"]
theorem sc__law_world : FnScope N__law_world ["bag", "program", "many", "anys"] (defScope s__law_world) := ⟨rfl, rfl, rfl, by decide +kernel, rfl, by decide +kernel, by decide +kernel⟩
def SC__law_world_0r : Scope := { kind := .function, names := [ (PySem.Str.ofString ".0", PySem.NameKind.local), (PySem.Str.ofString "x", PySem.NameKind.local), (PySem.Str.ofString "_law_take", PySem.NameKind.globalImplicit), (PySem.Str.ofString "bag", PySem.NameKind.cell), (PySem.Str.ofString "many", PySem.NameKind.cell)], isGenerator := false, isCoroutine := false, more := [] }
def SC__law_world_0 : Scope := { kind := .function, names := [ (PySem.Str.ofString ".0", PySem.NameKind.local), (PySem.Str.ofString "x", PySem.NameKind.local), (PySem.Str.ofString "_law_take", PySem.NameKind.globalImplicit), (PySem.Str.ofString "bag", PySem.NameKind.free), (PySem.Str.ofString "many", PySem.NameKind.free)], isGenerator := false, isCoroutine := false, more := [] }
def SC__law_world_1r : Scope := { kind := .function, names := [ (PySem.Str.ofString ".0", PySem.NameKind.local), (PySem.Str.ofString "k", PySem.NameKind.local), (PySem.Str.ofString "_law_take", PySem.NameKind.globalImplicit), (PySem.Str.ofString "bag", PySem.NameKind.cell), (PySem.Str.ofString "many", PySem.NameKind.cell)], isGenerator := false, isCoroutine := false, more := [] }
def SC__law_world_1 : Scope := { kind := .function, names := [ (PySem.Str.ofString ".0", PySem.NameKind.local), (PySem.Str.ofString "k", PySem.NameKind.local), (PySem.Str.ofString "_law_take", PySem.NameKind.globalImplicit), (PySem.Str.ofString "bag", PySem.NameKind.free), (PySem.Str.ofString "many", PySem.NameKind.free)], isGenerator := false, isCoroutine := false, more := [] }
def t__law_world : AS :=
  (aSeq (aSet 4 (aFg (aCB cTuple (aCons (aSl (aFg (aCall sp__law_mixed AX0 (aCons (aVar 0) (aCons (aListRg (aVar 2)) aNil)))) aNoPart (aPart (aCB cLen (aCons (aOp rIx (aVar 1) (aC (.int 1))) aNil)))) aNil))))
    (aSeq (aSet 5 (aLst aNil))
    (aSeq (aFor (iSeq (aOp rIx (aVar 1) (aC (.int 0)))) (aGTup 3 (aGCons (aName 6) (aGCons (aName 7) (aGCons (aName 8) aGNil)))) (aSeq (aPar 9 10 (aCons (aLst aNil) (aCons (aLst (aCons (aTup aNil) aNil)) aNil)))
    (aSeq (aFor (iRg1 (aCons (aVar 7) aNil)) (aName 11) (aSet 10 (aCall sp__law_longer AX0 (aCons (aVar 10) (aCons (aVar 2) (aCons (aVar 8) aNil))))))
    (aSeq (aFor (iSeq (aCB cSorted (aCons (aVar 10) aNil))) (aName 12) (aIfS (aTest (aOp (rI2 (fun _ _ => True) fun i j => .bl (decide (j < i))) (aCall sp__law_take AX0 (aCons (aVar 0) (aCons (aC (.int 3)) aNil))) (aC (.int 0)))) (aDrop (aM "list" mAppend (aVar 9) (aCons (aTup (aCons (aVar 12) (aCons (aCall sp__law_take AX0 (aCons (aVar 0) (aCons (aVar 2) aNil))) aNil))) aNil))) aNext))
    (aDrop (aM "list" mAppend (aVar 5) (aCons (aTup (aCons (aCB cTuple (aCons (aVar 9) aNil)) (aCons (aCall sp__law_take AX0 (aCons (aVar 0) (aCons (aVar 2) aNil))) aNil))) aNil)))))))
    (aSeq (aSet 13 (aFg (aCB cTuple (aCons (aLc (iSeq (aOp rIx (aVar 1) (aC (.int 3)))) (aName 14) aYes (aCall sp__law_take AX0 (aCons (aVar 0) (aCons (aVar 2) aNil))) [14]) aNil))))
    (aRet (aTup (aCons (aVar 2) (aCons (aVar 4) (aCons (aVar 13) (aCons (aFg (aCB cTuple (aCons (aLc (iRg1 (aCons (aVar 3) aNil)) (aName 11) aYes (aCall sp__law_take AX0 (aCons (aVar 0) (aCons (aVar 2) aNil))) [11]) aNil))) (aCons (aCB cTuple (aCons (aVar 5) aNil)) aNil)))))))))))
theorem ok__law_world {gd : Prop} {P : Program} {w : World} {K : PySem.W.Frag} {mg : Str → Option Value} {base : Heap} {f : Addr} {fd : FuncData} (F : FnP K "_law_world" s__law_world f fd) (c__law_mixed : Cal gd P w K mg base 2 "_law_mixed" ["bag", "things"] sp__law_mixed) (c__law_longer : Cal gd P w K mg base 1 "_law_longer" ["keys", "many", "how"] sp__law_longer) (c__law_take : Cal gd P w K mg base 1 "_law_take" ["bag", "many"] sp__law_take) (z_tuple : mg "tuple" = none) (z_list : mg "list" = none) (z_range : mg "range" = none) (z_len : mg "len" = none) (z_sorted : mg "sorted" = none)
    (len : ∀ ds h R E, sp__law_world ds h R E → ds.length = 4) (pure_ : ∀ ds h R E, sp__law_world ds h R E → t__law_world { nx := fun _ h' => fgR R .non h', rt := fgR R } (astart N__law_world ds) h) :
    FnG gd P w K mg base 3 f fd ["bag", "program", "many", "anys"] (upSp P w K sp__law_world) := by
  refine afn (k := 2) F sc__law_world len fun cdv A outer s H W ds h R E hr hG hsp tk => ⟨t__law_world, ?_, pure_ ds h R E hsp⟩
  have HP : PassesOwn (model P w) (A.deeper (envOfC "_law_world" (defScope s__law_world) s.heap.objs.size f cdv)) (envOfC "_law_world" (defScope s__law_world) s.heap.objs.size f cdv) (cxOf (L2.CX P w) P w K mg base N__law_world "_law_world" (defScope s__law_world) f cdv A outer s H W).xe := passes_of (X := cxOf (L2.CX P w) P w K mg base N__law_world "_law_world" (defScope s__law_world) f cdv A outer s H W) rfl
  exact (b_cons (s_set (i := 4) sc__law_world.nd rfl (by first | exact Or.inl rfl | exact Or.inr rfl) (e_fg (e_callT call_tuple (by rfl) z_tuple boot_tuple (a_cons (e_sl (e_fg (e_cal c__law_mixed hr hG (by rfl) xpass0 (a_cons (e_var (pv 0)) (a_cons (e_listRg rfl (by rfl) z_list (by rfl) z_range (e_var (pv 2))) a_nil)))) p_none (p_some (e_call call_len (by rfl) z_len boot_len (a_cons (e_ix (e_var (pv 1)) e_int) a_nil)))) a_nil))))
    (b_cons (s_set (i := 5) sc__law_world.nd rfl (by first | exact Or.inl rfl | exact Or.inr rfl) (e_lst a_nil))
    (b_cons (s_for HP (by rfl) (i_seq (e_ix (e_var (pv 1)) e_int)) (g_tup (by rfl) (gs_cons (g_name (i := 6) sc__law_world.nd rfl (by first | exact Or.inl rfl | exact Or.inr rfl)) (gs_cons (g_name (i := 7) sc__law_world.nd rfl (by first | exact Or.inl rfl | exact Or.inr rfl)) (gs_cons (g_name (i := 8) sc__law_world.nd rfl (by first | exact Or.inl rfl | exact Or.inr rfl)) gs_nil)))) (b_cons (s_par (i := 9) (j := 10) (by rfl) sc__law_world.nd rfl rfl (by decide) (by rfl) (by rfl) (a_cons (e_lst a_nil) (a_cons (e_lst (a_cons (e_tup a_nil) a_nil)) a_nil)) (by rfl))
    (b_cons (s_for HP (by rfl) (i_range1 (by rfl) z_range (a_cons (e_var (pv 7)) a_nil)) (g_name (i := 11) sc__law_world.nd rfl (by first | exact Or.inl rfl | exact Or.inr rfl)) (b_one (s_set (i := 10) sc__law_world.nd rfl (by first | exact Or.inl rfl | exact Or.inr rfl) (e_cal c__law_longer hr hG (by rfl) xpass0 (a_cons (e_var (pv 10)) (a_cons (e_var (pv 2)) (a_cons (e_var (pv 8)) a_nil)))))))
    (b_cons (s_for HP (by rfl) (i_seq (e_call (call_sorted hr.units) (by rfl) z_sorted boot_sorted (a_cons (e_var (pv 10)) a_nil))) (g_name (i := 12) sc__law_world.nd rfl (by first | exact Or.inl rfl | exact Or.inr rfl)) (b_one (s_if (t_cmp o_gtI (e_cal c__law_take hr hG (by rfl) xpass0 (a_cons (e_var (pv 0)) (a_cons e_int a_nil))) e_int (by first | exact nomark _ | rfl)) (b_one (s_expr (e_m PySem.F.plainAttrs_list PySem.F.slot_list_append PySem.F.type_list_append m_append (e_var (pv 9)) (a_cons (e_tup (a_cons (e_var (pv 12)) (a_cons (e_cal c__law_take hr hG (by rfl) xpass0 (a_cons (e_var (pv 0)) (a_cons (e_var (pv 2)) a_nil))) a_nil))) a_nil)))) b_nil)))
    (b_one (s_expr (e_m PySem.F.plainAttrs_list PySem.F.slot_list_append PySem.F.type_list_append m_append (e_var (pv 5)) (a_cons (e_tup (a_cons (e_callT call_tuple (by rfl) z_tuple boot_tuple (a_cons (e_var (pv 9)) a_nil)) (a_cons (e_cal c__law_take hr hG (by rfl) xpass0 (a_cons (e_var (pv 0)) (a_cons (e_var (pv 2)) a_nil))) a_nil))) a_nil))))))))
    (b_cons (s_set (i := 13) sc__law_world.nd rfl (by first | exact Or.inl rfl | exact Or.inr rfl) (e_fg (e_callT call_tuple (by rfl) z_tuple boot_tuple (a_cons (e_lc (scope := SC__law_world_0) (own := [("x", 14)]) (us := [14]) (l := false) (g := (aName 14)) (tt := aYes) (by rfl) sc__law_world.nd (i_seq (e_ix (e_var (pv 1)) e_int)) (by exact blkOk_by (N := N__law_world) (sc := (defScope s__law_world)) (scope := SC__law_world_0) (own := [("x", 14)]) (by decide +kernel)) (fun _ _ _ _ _ => (g_name (i := 14) sc__law_world.nd rfl (by first | exact Or.inl rfl | exact Or.inr rfl))) (fun _ _ _ _ _ => ts_nil) (fun _ _ _ _ _ => (e_cal c__law_take hr hG (by rfl) xpass0 (a_cons (e_var (pv 0)) (a_cons (e_var (pv 2)) a_nil)))) (by decide)) a_nil))))
    (b_one (s_ret (e_tup (a_cons (e_var (pv 2)) (a_cons (e_var (pv 4)) (a_cons (e_var (pv 13)) (a_cons (e_fg (e_callT call_tuple (by rfl) z_tuple boot_tuple (a_cons (e_lc (scope := SC__law_world_1) (own := [("k", 11)]) (us := [11]) (l := false) (g := (aName 11)) (tt := aYes) (by rfl) sc__law_world.nd (i_range1 (by rfl) z_range (a_cons (e_var (pv 3)) a_nil)) (by exact blkOk_by (N := N__law_world) (sc := (defScope s__law_world)) (scope := SC__law_world_1) (own := [("k", 11)]) (by decide +kernel)) (fun _ _ _ _ _ => (g_name (i := 11) sc__law_world.nd rfl (by first | exact Or.inl rfl | exact Or.inr rfl))) (fun _ _ _ _ _ => ts_nil) (fun _ _ _ _ _ => (e_cal c__law_take hr hG (by rfl) xpass0 (a_cons (e_var (pv 0)) (a_cons (e_var (pv 2)) a_nil)))) (by decide)) a_nil))) (a_cons (e_callT call_tuple (by rfl) z_tuple boot_tuple (a_cons (e_var (pv 5)) a_nil)) a_nil))))))))))))
def sp__law_applied : ASp := fun ds h R _ => ∃ (P : Prg) (w : Wld) (f : Fnc) (x : D) (ws : List Int) (i : Nat) (t : Tab), ds = [eP P, eW w, .str f.f, x] ∧ seqOf h x = some (ws.map D.int) ∧ (P.fs.all fun f => PyData.strOk f.f && PyData.strOk f.how) = true ∧ P.fs[i]? = some f ∧ (∀ (j : Nat) (g : Fnc), j < i → P.fs[j]? = some g → g.f ≠ f.f) ∧ w.tabs[i]? = some t ∧ R (applyT f t ws) h
abbrev s__law_applied : Stmt := topS 37
def N__law_applied : List Str := ["program", "world", "f", "worths", "k", "name", "parts", "how", "key", "rows", "rest"]
theorem sc__law_applied : FnScope N__law_applied ["program", "world", "f", "worths"] (defScope s__law_applied) := ⟨rfl, rfl, rfl, by decide +kernel, rfl, by decide +kernel, by decide +kernel⟩
def SC__law_applied_0r : Scope := { kind := .function, names := [ (PySem.Str.ofString ".0", PySem.NameKind.local), (PySem.Str.ofString "name", PySem.NameKind.local), (PySem.Str.ofString "parts", PySem.NameKind.local), (PySem.Str.ofString "how", PySem.NameKind.local)], isGenerator := false, isCoroutine := false, more := [] }
def SC__law_applied_0 : Scope := { kind := .function, names := [ (PySem.Str.ofString ".0", PySem.NameKind.local), (PySem.Str.ofString "name", PySem.NameKind.local), (PySem.Str.ofString "parts", PySem.NameKind.local), (PySem.Str.ofString "how", PySem.NameKind.local)], isGenerator := false, isCoroutine := false, more := [] }
def t__law_applied : AS :=
  (aSeq (aSet 4 (aFg (aM "list" mIndexL (aLc (iSeq (aOp rIx (aVar 0) (aC (.int 0)))) (aGTup 3 (aGCons (aName 5) (aGCons (aName 6) (aGCons (aName 7) aGNil)))) aYes (aVar 5) [5, 6, 7]) (aCons (aVar 2) aNil))))
    (aSeq (aSet 8 (aFg (aCB cTuple (aCons (aIf (aTest (aOp rEq (aOp rIx (aOp rIx (aOp rIx (aVar 0) (aC (.int 0))) (aVar 4)) (aC (.int 2))) (aC (.str "either")))) (aCB cSorted (aCons (aVar 3) aNil)) (aVar 3)) aNil))))
    (aSeq (aAsg (aOp rIx (aOp rIx (aVar 1) (aC (.int 4))) (aVar 4)) (aGTup 2 (aGCons (aName 9) (aGCons (aName 10) aGNil))))
    (aRet (aFg (aM "dict" mGet (aCB cDict (aCons (aVar 9) aNil)) (aCons (aVar 8) (aCons (aVar 10) aNil))))))))
theorem ok__law_applied {gd : Prop} {P : Program} {w : World} {K : PySem.W.Frag} {mg : Str → Option Value} {base : Heap} {f : Addr} {fd : FuncData} (F : FnP K "_law_applied" s__law_applied f fd) (z_tuple : mg "tuple" = none) (z_sorted : mg "sorted" = none) (z_dict : mg "dict" = none)
    (len : ∀ ds h R E, sp__law_applied ds h R E → ds.length = 4) (pure_ : ∀ ds h R E, sp__law_applied ds h R E → t__law_applied { nx := fun _ h' => fgR R .non h', rt := fgR R } (astart N__law_applied ds) h) :
    FnG gd P w K mg base 1 f fd ["program", "world", "f", "worths"] (upSp P w K sp__law_applied) := by
  refine afn (k := 0) F sc__law_applied len fun cdv A outer s H W ds h R E hr hG hsp tk => ⟨t__law_applied, ?_, pure_ ds h R E hsp⟩
  exact (b_cons (s_set (i := 4) sc__law_applied.nd rfl (by first | exact Or.inl rfl | exact Or.inr rfl) (e_fg (e_m PySem.F.plainAttrs_list PySem.F.slot_list_index PySem.F.type_list_index (m_indexL (u65 hr)) (e_lc (scope := SC__law_applied_0) (own := [("name", 5), ("parts", 6), ("how", 7)]) (us := [5, 6, 7]) (l := false) (g := (aGTup 3 (aGCons (aName 5) (aGCons (aName 6) (aGCons (aName 7) aGNil))))) (tt := aYes) (by rfl) sc__law_applied.nd (i_seq (e_ix (e_var (pv 0)) e_int)) (by exact blkOk_by (N := N__law_applied) (sc := (defScope s__law_applied)) (scope := SC__law_applied_0) (own := [("name", 5), ("parts", 6), ("how", 7)]) (by decide +kernel)) (fun _ _ _ _ _ => (g_tup (by rfl) (gs_cons (g_name (i := 5) sc__law_applied.nd rfl (by first | exact Or.inl rfl | exact Or.inr rfl)) (gs_cons (g_name (i := 6) sc__law_applied.nd rfl (by first | exact Or.inl rfl | exact Or.inr rfl)) (gs_cons (g_name (i := 7) sc__law_applied.nd rfl (by first | exact Or.inl rfl | exact Or.inr rfl)) gs_nil))))) (fun _ _ _ _ _ => ts_nil) (fun _ _ _ _ _ => (e_var (pv 5))) (by decide)) (a_cons (e_var (pv 2)) a_nil))))
    (b_cons (s_set (i := 8) sc__law_applied.nd rfl (by first | exact Or.inl rfl | exact Or.inr rfl) (e_fg (e_callT call_tuple (by rfl) z_tuple boot_tuple (a_cons (e_if (t_cmp (o_eq hr.units) (e_ix (e_ix (e_ix (e_var (pv 0)) e_int) (e_var (pv 4))) e_int) e_str (by first | exact nomark _ | rfl)) (e_call (call_sorted hr.units) (by rfl) z_sorted boot_sorted (a_cons (e_var (pv 3)) a_nil)) (e_var (pv 3))) a_nil))))
    (b_cons (s_asg (e_ix (e_ix (e_var (pv 1)) e_int) (e_var (pv 4))) (g_tup (by rfl) (gs_cons (g_name (i := 9) sc__law_applied.nd rfl (by first | exact Or.inl rfl | exact Or.inr rfl)) (gs_cons (g_name (i := 10) sc__law_applied.nd rfl (by first | exact Or.inl rfl | exact Or.inr rfl)) gs_nil))))
    (b_one (s_ret (e_fg (e_m PySem.F.plainAttrs_dict PySem.F.slot_dict_get PySem.F.type_dict_get (m_get hr.units) (e_callT (call_dict rfl hr.units) (by rfl) z_dict boot_dict (a_cons (e_var (pv 9)) a_nil)) (a_cons (e_var (pv 8)) (a_cons (e_var (pv 10)) a_nil)))))))))
def sp__law_wide_functions : ASp := fun ds h R _ => ∃ b, ds = [.ref b] ∧ Bag h b ∧ ∀ fs h', FsOk fs → Bag h' b → Fr1 b h h' → R (.tup (fs.map eFn)) h'
abbrev s__law_wide_functions : Stmt := topS 38
def N__law_wide_functions : List Str := ["bag", "every", "one"]
theorem sc__law_wide_functions : FnScope N__law_wide_functions ["bag"] (defScope s__law_wide_functions) := ⟨rfl, rfl, rfl, by decide +kernel, rfl, by decide +kernel, by decide +kernel⟩
def SC__law_wide_functions_0r : Scope := { kind := .function, names := [ (PySem.Str.ofString ".0", PySem.NameKind.local), (PySem.Str.ofString "one", PySem.NameKind.local), (PySem.Str.ofString "_law_take", PySem.NameKind.globalImplicit), (PySem.Str.ofString "bag", PySem.NameKind.cell)], isGenerator := false, isCoroutine := false, more := [] }
def SC__law_wide_functions_0 : Scope := { kind := .function, names := [ (PySem.Str.ofString ".0", PySem.NameKind.local), (PySem.Str.ofString "one", PySem.NameKind.local), (PySem.Str.ofString "_law_take", PySem.NameKind.globalImplicit), (PySem.Str.ofString "bag", PySem.NameKind.free)], isGenerator := false, isCoroutine := false, more := [] }
def t__law_wide_functions : AS :=
  (aSeq (aSet 1 (aLst (aCons (aTup (aCons (aC (.str "f")) (aCons (aC (.int 1)) (aCons (aC (.str "told")) aNil)))) (aCons (aTup (aCons (aC (.str "g")) (aCons (aC (.int 2)) (aCons (aC (.str "either")) aNil)))) (aCons (aTup (aCons (aC (.str "h")) (aCons (aC (.int 2)) (aCons (aC (.str "told")) aNil)))) aNil)))))
    (aRet (aFg (aCB cTuple (aCons (aOp rAdd (aLc (iSeq (aVar 1)) (aName 2) (aTest (aOp rEq (aCall sp__law_take AX0 (aCons (aVar 0) (aCons (aC (.int 2)) aNil))) (aC (.int 0)))) (aVar 2) [2]) (aLst (aCons (aTup (aCons (aC (.str "k")) (aCons (aC (.int 3)) (aCons (aC (.str "told")) aNil)))) aNil))) aNil)))))
theorem ok__law_wide_functions {gd : Prop} {P : Program} {w : World} {K : PySem.W.Frag} {mg : Str → Option Value} {base : Heap} {f : Addr} {fd : FuncData} (F : FnP K "_law_wide_functions" s__law_wide_functions f fd) (c__law_take : Cal gd P w K mg base 1 "_law_take" ["bag", "many"] sp__law_take) (z_tuple : mg "tuple" = none)
    (len : ∀ ds h R E, sp__law_wide_functions ds h R E → ds.length = 1) (pure_ : ∀ ds h R E, sp__law_wide_functions ds h R E → t__law_wide_functions { nx := fun _ h' => fgR R .non h', rt := fgR R } (astart N__law_wide_functions ds) h) :
    FnG gd P w K mg base 2 f fd ["bag"] (upSp P w K sp__law_wide_functions) := by
  refine afn (k := 1) F sc__law_wide_functions len fun cdv A outer s H W ds h R E hr hG hsp tk => ⟨t__law_wide_functions, ?_, pure_ ds h R E hsp⟩
  exact (b_cons (s_set (i := 1) sc__law_wide_functions.nd rfl (by first | exact Or.inl rfl | exact Or.inr rfl) (e_lst (a_cons (e_tup (a_cons e_str (a_cons e_int (a_cons e_str a_nil)))) (a_cons (e_tup (a_cons e_str (a_cons e_int (a_cons e_str a_nil)))) (a_cons (e_tup (a_cons e_str (a_cons e_int (a_cons e_str a_nil)))) a_nil)))))
    (b_one (s_ret (e_fg (e_callT call_tuple (by rfl) z_tuple boot_tuple (a_cons (e_op o_add (e_lc (scope := SC__law_wide_functions_0) (own := [("one", 2)]) (us := [2]) (l := false) (g := (aName 2)) (tt := (aTest (aOp rEq (aCall sp__law_take AX0 (aCons (aVar 0) (aCons (aC (.int 2)) aNil))) (aC (.int 0))))) (by rfl) sc__law_wide_functions.nd (i_seq (e_var (pv 1))) (by exact blkOk_by (N := N__law_wide_functions) (sc := (defScope s__law_wide_functions)) (scope := SC__law_wide_functions_0) (own := [("one", 2)]) (by decide +kernel)) (fun _ _ _ _ _ => (g_name (i := 2) sc__law_wide_functions.nd rfl (by first | exact Or.inl rfl | exact Or.inr rfl))) (fun _ _ _ _ _ => (ts_one (t_cmp (o_eq hr.units) (e_cal c__law_take hr hG (by rfl) xpass0 (a_cons (e_var (pv 0)) (a_cons e_int a_nil))) e_int (by first | exact nomark _ | rfl)))) (fun _ _ _ _ _ => (e_var (pv 2))) (by decide)) (e_lst (a_cons (e_tup (a_cons e_str (a_cons e_int (a_cons e_str a_nil)))) a_nil))) a_nil))))))
def sp__law_wide_frame : ASp := fun ds h R _ => ∃ b, ds = [.ref b] ∧ Bag h b ∧ ∀ P h', POk P → Bag h' b → Fr1 b h h' → R (eP P) h'
abbrev s__law_wide_frame : Stmt := topS 39
def N__law_wide_frame : List Str := ["bag", "letters", "variables", "inputs", "name"]
theorem sc__law_wide_frame : FnScope N__law_wide_frame ["bag"] (defScope s__law_wide_frame) := ⟨rfl, rfl, rfl, by decide +kernel, rfl, by decide +kernel, by decide +kernel⟩
def SC__law_wide_frame_0r : Scope := { kind := .function, names := [ (PySem.Str.ofString ".0", PySem.NameKind.local), (PySem.Str.ofString "name", PySem.NameKind.local), (PySem.Str.ofString "_law_take", PySem.NameKind.globalImplicit), (PySem.Str.ofString "bag", PySem.NameKind.cell)], isGenerator := false, isCoroutine := false, more := [] }
def SC__law_wide_frame_0 : Scope := { kind := .function, names := [ (PySem.Str.ofString ".0", PySem.NameKind.local), (PySem.Str.ofString "name", PySem.NameKind.local), (PySem.Str.ofString "_law_take", PySem.NameKind.globalImplicit), (PySem.Str.ofString "bag", PySem.NameKind.free)], isGenerator := false, isCoroutine := false, more := [] }
def t__law_wide_frame : AS :=
  (aSeq (aPar 1 2 (aCons (aSl (aTup (aCons (aC (.str "nil")) (aCons (aC (.str "yes")) (aCons (aC (.str "zed")) aNil)))) aNoPart (aPart (aOp rAdd (aC (.int 1)) (aCall sp__law_take AX0 (aCons (aVar 0) (aCons (aC (.int 3)) aNil)))))) (aCons (aSl (aTup (aCons (aC (.str "a")) (aCons (aC (.str "b")) (aCons (aC (.str "c")) (aCons (aC (.str "d")) aNil))))) aNoPart (aPart (aOp rAdd (aC (.int 2)) (aCall sp__law_take AX0 (aCons (aVar 0) (aCons (aC (.int 3)) aNil)))))) aNil)))
    (aSeq (aSet 3 (aFg (aCB cTuple (aCons (aLc (iSeq (aVar 2)) (aName 4) (aTest (aOp rEq (aCall sp__law_take AX0 (aCons (aVar 0) (aCons (aC (.int 2)) aNil))) (aC (.int 0)))) (aVar 4) [4]) aNil))))
    (aRet (aTup (aCons (aCall sp__law_wide_functions AX0 (aCons (aVar 0) aNil)) (aCons (aVar 1) (aCons (aVar 2) (aCons (aVar 3) (aCons (aTup aNil) (aCons (aTup aNil) aNil))))))))))
theorem ok__law_wide_frame {gd : Prop} {P : Program} {w : World} {K : PySem.W.Frag} {mg : Str → Option Value} {base : Heap} {f : Addr} {fd : FuncData} (F : FnP K "_law_wide_frame" s__law_wide_frame f fd) (c__law_take : Cal gd P w K mg base 1 "_law_take" ["bag", "many"] sp__law_take) (c__law_wide_functions : Cal gd P w K mg base 2 "_law_wide_functions" ["bag"] sp__law_wide_functions) (z_tuple : mg "tuple" = none)
    (len : ∀ ds h R E, sp__law_wide_frame ds h R E → ds.length = 1) (pure_ : ∀ ds h R E, sp__law_wide_frame ds h R E → t__law_wide_frame { nx := fun _ h' => fgR R .non h', rt := fgR R } (astart N__law_wide_frame ds) h) :
    FnG gd P w K mg base 3 f fd ["bag"] (upSp P w K sp__law_wide_frame) := by
  refine afn (k := 2) F sc__law_wide_frame len fun cdv A outer s H W ds h R E hr hG hsp tk => ⟨t__law_wide_frame, ?_, pure_ ds h R E hsp⟩
  exact (b_cons (s_par (i := 1) (j := 2) (by rfl) sc__law_wide_frame.nd rfl rfl (by decide) (by rfl) (by rfl) (a_cons (e_sl (e_tup (a_cons e_str (a_cons e_str (a_cons e_str a_nil)))) p_none (p_some (e_op o_add e_int (e_cal c__law_take hr hG (by rfl) xpass0 (a_cons (e_var (pv 0)) (a_cons e_int a_nil)))))) (a_cons (e_sl (e_tup (a_cons e_str (a_cons e_str (a_cons e_str (a_cons e_str a_nil))))) p_none (p_some (e_op o_add e_int (e_cal c__law_take hr hG (by rfl) xpass0 (a_cons (e_var (pv 0)) (a_cons e_int a_nil)))))) a_nil)) (by rfl))
    (b_cons (s_set (i := 3) sc__law_wide_frame.nd rfl (by first | exact Or.inl rfl | exact Or.inr rfl) (e_fg (e_callT call_tuple (by rfl) z_tuple boot_tuple (a_cons (e_lc (scope := SC__law_wide_frame_0) (own := [("name", 4)]) (us := [4]) (l := false) (g := (aName 4)) (tt := (aTest (aOp rEq (aCall sp__law_take AX0 (aCons (aVar 0) (aCons (aC (.int 2)) aNil))) (aC (.int 0))))) (by rfl) sc__law_wide_frame.nd (i_seq (e_var (pv 2))) (by exact blkOk_by (N := N__law_wide_frame) (sc := (defScope s__law_wide_frame)) (scope := SC__law_wide_frame_0) (own := [("name", 4)]) (by decide +kernel)) (fun _ _ _ _ _ => (g_name (i := 4) sc__law_wide_frame.nd rfl (by first | exact Or.inl rfl | exact Or.inr rfl))) (fun _ _ _ _ _ => (ts_one (t_cmp (o_eq hr.units) (e_cal c__law_take hr hG (by rfl) xpass0 (a_cons (e_var (pv 0)) (a_cons e_int a_nil))) e_int (by first | exact nomark _ | rfl)))) (fun _ _ _ _ _ => (e_var (pv 4))) (by decide)) a_nil))))
    (b_one (s_ret (e_tup (a_cons (e_cal c__law_wide_functions hr hG (by rfl) xpass0 (a_cons (e_var (pv 0)) a_nil)) (a_cons (e_var (pv 1)) (a_cons (e_var (pv 2)) (a_cons (e_var (pv 3)) (a_cons (e_tup a_nil) (a_cons (e_tup a_nil) a_nil)))))))))))
def sp__law_called : ASp := fun ds h R _ => ∃ P w o, ds = [eP P, eW w, eI o] ∧ (∀ f ∈ P.fs, FOk f) ∧ WIn o.length w ∧ WSz w ∧ R (otherW P w o) h
abbrev s__law_called : Stmt := topS 42
def N__law_called : List Str := ["program", "world", "order", "tables", "function", "table", "rows", "w", "key", "worth", "lot"]
theorem sc__law_called : FnScope N__law_called ["program", "world", "order"] (defScope s__law_called) := ⟨rfl, rfl, rfl, by decide +kernel, rfl, by decide +kernel, by decide +kernel⟩
def SC__law_called_0r : Scope := { kind := .function, names := [ (PySem.Str.ofString ".0", PySem.NameKind.local), (PySem.Str.ofString "key", PySem.NameKind.local), (PySem.Str.ofString "worth", PySem.NameKind.local), (PySem.Str.ofString "tuple", PySem.NameKind.globalImplicit), (PySem.Str.ofString "order", PySem.NameKind.cell)], isGenerator := false, isCoroutine := false, more := [] }
def SC__law_called_0 : Scope := { kind := .function, names := [ (PySem.Str.ofString ".0", PySem.NameKind.local), (PySem.Str.ofString "key", PySem.NameKind.local), (PySem.Str.ofString "worth", PySem.NameKind.local), (PySem.Str.ofString "tuple", PySem.NameKind.globalImplicit), (PySem.Str.ofString "order", PySem.NameKind.free)], isGenerator := false, isCoroutine := false, more := [] }
def SC__law_called_1r : Scope := { kind := .function, names := [ (PySem.Str.ofString ".0", PySem.NameKind.local), (PySem.Str.ofString "w", PySem.NameKind.local), (PySem.Str.ofString "order", PySem.NameKind.cell)], isGenerator := false, isCoroutine := false, more := [] }
def SC__law_called_1 : Scope := { kind := .function, names := [ (PySem.Str.ofString ".0", PySem.NameKind.local), (PySem.Str.ofString "w", PySem.NameKind.local), (PySem.Str.ofString "order", PySem.NameKind.free)], isGenerator := false, isCoroutine := false, more := [] }
def SC__law_called_2r : Scope := { kind := .function, names := [ (PySem.Str.ofString ".0", PySem.NameKind.local), (PySem.Str.ofString "key", PySem.NameKind.local), (PySem.Str.ofString "worth", PySem.NameKind.local), (PySem.Str.ofString "tuple", PySem.NameKind.globalImplicit), (PySem.Str.ofString "sorted", PySem.NameKind.globalImplicit), (PySem.Str.ofString "function", PySem.NameKind.cell)], isGenerator := false, isCoroutine := false, more := [] }
def SC__law_called_2 : Scope := { kind := .function, names := [ (PySem.Str.ofString ".0", PySem.NameKind.local), (PySem.Str.ofString "key", PySem.NameKind.local), (PySem.Str.ofString "worth", PySem.NameKind.local), (PySem.Str.ofString "tuple", PySem.NameKind.globalImplicit), (PySem.Str.ofString "sorted", PySem.NameKind.globalImplicit), (PySem.Str.ofString "function", PySem.NameKind.free)], isGenerator := false, isCoroutine := false, more := [] }
def SC__law_called_3r : Scope := { kind := .function, names := [ (PySem.Str.ofString ".0", PySem.NameKind.local), (PySem.Str.ofString "lot", PySem.NameKind.local), (PySem.Str.ofString "tuple", PySem.NameKind.globalImplicit), (PySem.Str.ofString "order", PySem.NameKind.cell)], isGenerator := false, isCoroutine := false, more := [] }
def SC__law_called_3 : Scope := { kind := .function, names := [ (PySem.Str.ofString ".0", PySem.NameKind.local), (PySem.Str.ofString "lot", PySem.NameKind.local), (PySem.Str.ofString "tuple", PySem.NameKind.globalImplicit), (PySem.Str.ofString "order", PySem.NameKind.free)], isGenerator := false, isCoroutine := false, more := [] }
def SC__law_called_4r : Scope := { kind := .function, names := [ (PySem.Str.ofString ".0", PySem.NameKind.local), (PySem.Str.ofString "w", PySem.NameKind.local), (PySem.Str.ofString "order", PySem.NameKind.cell)], isGenerator := false, isCoroutine := false, more := [] }
def SC__law_called_4 : Scope := { kind := .function, names := [ (PySem.Str.ofString ".0", PySem.NameKind.local), (PySem.Str.ofString "w", PySem.NameKind.local), (PySem.Str.ofString "order", PySem.NameKind.free)], isGenerator := false, isCoroutine := false, more := [] }
def t__law_called : AS :=
  (aSeq (aSet 3 (aLst aNil))
    (aSeq (aFor (iZip2 (aCons (aOp rIx (aVar 0) (aC (.int 0))) (aCons (aOp rIx (aVar 1) (aC (.int 4))) aNil))) (aGTup 2 (aGCons (aName 4) (aGCons (aName 5) aGNil))) (aSeq (aSet 6 (aLc (iSeq (aOp rIx (aVar 5) (aC (.int 0)))) (aGTup 2 (aGCons (aName 8) (aGCons (aName 9) aGNil))) aYes (aTup (aCons (aFg (aCB cTuple (aCons (aLc (iSeq (aVar 8)) (aName 7) aYes (aOp rIx (aVar 2) (aVar 7)) [7]) aNil))) (aCons (aOp rIx (aVar 2) (aVar 9)) aNil))) [8, 9]))
    (aSeq (aSet 6 (aLc (iSeq (aVar 6)) (aGTup 2 (aGCons (aName 8) (aGCons (aName 9) aGNil))) aYes (aTup (aCons (aIf (aTest (aOp rEq (aOp rIx (aVar 4) (aC (.int 2))) (aC (.str "either")))) (aFg (aCB cTuple (aCons (aCB cSorted (aCons (aVar 8) aNil)) aNil))) (aVar 8)) (aCons (aVar 9) aNil))) [8, 9]))
    (aDrop (aFg (aM "list" mAppend (aVar 3) (aCons (aTup (aCons (aFg (aCB cTuple (aCons (aCB cSorted (aCons (aVar 6) aNil)) aNil))) (aCons (aOp rIx (aVar 2) (aOp rIx (aVar 5) (aC (.int 1)))) aNil))) aNil)))))))
    (aRet (aFg (aOp rAdd (aFg (aOp rAdd (aTup (aCons (aOp rIx (aVar 1) (aC (.int 0))) aNil)) (aFg (aCB cTuple (aCons (aLc (iSeq (aSl (aVar 1) (aPart (aC (.int 1))) (aPart (aC (.int 4))))) (aName 10) aYes (aFg (aCB cTuple (aCons (aLc (iSeq (aVar 10)) (aName 7) aYes (aOp rIx (aVar 2) (aVar 7)) [7]) aNil))) [10]) aNil))))) (aTup (aCons (aCB cTuple (aCons (aVar 3) aNil)) aNil)))))))
theorem ok__law_called {gd : Prop} {P : Program} {w : World} {K : PySem.W.Frag} {mg : Str → Option Value} {base : Heap} {f : Addr} {fd : FuncData} (F : FnP K "_law_called" s__law_called f fd) (z_zip : mg "zip" = none) (z_tuple : mg "tuple" = none) (z_sorted : mg "sorted" = none)
    (len : ∀ ds h R E, sp__law_called ds h R E → ds.length = 3) (pure_ : ∀ ds h R E, sp__law_called ds h R E → t__law_called { nx := fun _ h' => fgR R .non h', rt := fgR R } (astart N__law_called ds) h) :
    FnG gd P w K mg base 1 f fd ["program", "world", "order"] (upSp P w K sp__law_called) := by
  refine afn (k := 0) F sc__law_called len fun cdv A outer s H W ds h R E hr hG hsp tk => ⟨t__law_called, ?_, pure_ ds h R E hsp⟩
  have HP : PassesOwn (model P w) (A.deeper (envOfC "_law_called" (defScope s__law_called) s.heap.objs.size f cdv)) (envOfC "_law_called" (defScope s__law_called) s.heap.objs.size f cdv) (cxOf (L2.CX P w) P w K mg base N__law_called "_law_called" (defScope s__law_called) f cdv A outer s H W).xe := passes_of (X := cxOf (L2.CX P w) P w K mg base N__law_called "_law_called" (defScope s__law_called) f cdv A outer s H W) rfl
  exact (b_cons (s_set (i := 3) sc__law_called.nd rfl (by first | exact Or.inl rfl | exact Or.inr rfl) (e_lst a_nil))
    (b_cons (s_for HP (by rfl) (i_zip (by rfl) z_zip (a_cons (e_ix (e_var (pv 0)) e_int) (a_cons (e_ix (e_var (pv 1)) e_int) a_nil))) (g_tup (by rfl) (gs_cons (g_name (i := 4) sc__law_called.nd rfl (by first | exact Or.inl rfl | exact Or.inr rfl)) (gs_cons (g_name (i := 5) sc__law_called.nd rfl (by first | exact Or.inl rfl | exact Or.inr rfl)) gs_nil))) (b_cons (s_setLc (X := cxOf (L2.CX P w) P w K mg base N__law_called "_law_called" (defScope s__law_called) f cdv A outer s H W) (i := 6) (scope := SC__law_called_0) (own := [("key", 8), ("worth", 9)]) (us := [8, 9]) (l := false) (g := (aGTup 2 (aGCons (aName 8) (aGCons (aName 9) aGNil)))) (tt := aYes) (by rfl) sc__law_called.nd rfl (by rfl) (by rfl) (i_seq (e_ix (e_var (pv 5)) e_int)) (by exact blkOk_by (N := N__law_called) (sc := (defScope s__law_called)) (scope := SC__law_called_0) (own := [("key", 8), ("worth", 9)]) (by decide +kernel)) (fun _ _ _ _ _ => (g_tup (by rfl) (gs_cons (g_name (i := 8) sc__law_called.nd rfl (by first | exact Or.inl rfl | exact Or.inr rfl)) (gs_cons (g_name (i := 9) sc__law_called.nd rfl (by first | exact Or.inl rfl | exact Or.inr rfl)) gs_nil)))) (fun _ _ _ _ _ => ts_nil) (fun _ _ _ _ _ => (e_tup (a_cons (e_fg (e_callT call_tuple (by rfl) z_tuple boot_tuple (a_cons (e_lc (scope := SC__law_called_1) (own := [("w", 7)]) (us := [7]) (l := false) (g := (aName 7)) (tt := aYes) (by rfl) sc__law_called.nd (i_seq (e_var (pv 8))) (by exact blkOk_by (N := N__law_called) (sc := SC__law_called_0r) (scope := SC__law_called_1) (own := [("w", 7)]) (by decide +kernel)) (fun _ _ _ _ _ => (g_name (i := 7) sc__law_called.nd rfl (by first | exact Or.inl rfl | exact Or.inr rfl))) (fun _ _ _ _ _ => ts_nil) (fun _ _ _ _ _ => (e_ix (e_var (pv 2)) (e_var (pv 7)))) (by decide)) a_nil))) (a_cons (e_ix (e_var (pv 2)) (e_var (pv 9))) a_nil)))) (by decide))
    (b_cons (s_setLc (X := cxOf (L2.CX P w) P w K mg base N__law_called "_law_called" (defScope s__law_called) f cdv A outer s H W) (i := 6) (scope := SC__law_called_2) (own := [("key", 8), ("worth", 9)]) (us := [8, 9]) (l := false) (g := (aGTup 2 (aGCons (aName 8) (aGCons (aName 9) aGNil)))) (tt := aYes) (by rfl) sc__law_called.nd rfl (by rfl) (by rfl) (i_seq (e_var (pv 6))) (by exact blkOk_by (N := N__law_called) (sc := (defScope s__law_called)) (scope := SC__law_called_2) (own := [("key", 8), ("worth", 9)]) (by decide +kernel)) (fun _ _ _ _ _ => (g_tup (by rfl) (gs_cons (g_name (i := 8) sc__law_called.nd rfl (by first | exact Or.inl rfl | exact Or.inr rfl)) (gs_cons (g_name (i := 9) sc__law_called.nd rfl (by first | exact Or.inl rfl | exact Or.inr rfl)) gs_nil)))) (fun _ _ _ _ _ => ts_nil) (fun _ _ _ _ _ => (e_tup (a_cons (e_if (t_cmp (o_eq hr.units) (e_ix (e_var (pv 4)) e_int) e_str (by first | exact nomark _ | rfl)) (e_fg (e_callT call_tuple (by rfl) z_tuple boot_tuple (a_cons (e_call (call_sorted hr.units) (by rfl) z_sorted boot_sorted (a_cons (e_var (pv 8)) a_nil)) a_nil))) (e_var (pv 8))) (a_cons (e_var (pv 9)) a_nil)))) (by decide))
    (b_one (s_expr (e_fg (e_m PySem.F.plainAttrs_list PySem.F.slot_list_append PySem.F.type_list_append m_append (e_var (pv 3)) (a_cons (e_tup (a_cons (e_fg (e_callT call_tuple (by rfl) z_tuple boot_tuple (a_cons (e_call (call_sorted hr.units) (by rfl) z_sorted boot_sorted (a_cons (e_var (pv 6)) a_nil)) a_nil))) (a_cons (e_ix (e_var (pv 2)) (e_ix (e_var (pv 5)) e_int)) a_nil))) a_nil))))))))
    (b_one (s_ret (e_fg (e_op o_add (e_fg (e_op o_add (e_tup (a_cons (e_ix (e_var (pv 1)) e_int) a_nil)) (e_fg (e_callT call_tuple (by rfl) z_tuple boot_tuple (a_cons (e_lc (scope := SC__law_called_3) (own := [("lot", 10)]) (us := [10]) (l := false) (g := (aName 10)) (tt := aYes) (by rfl) sc__law_called.nd (i_seq (e_sl (e_var (pv 1)) (p_some e_int) (p_some e_int))) (by exact blkOk_by (N := N__law_called) (sc := (defScope s__law_called)) (scope := SC__law_called_3) (own := [("lot", 10)]) (by decide +kernel)) (fun _ _ _ _ _ => (g_name (i := 10) sc__law_called.nd rfl (by first | exact Or.inl rfl | exact Or.inr rfl))) (fun _ _ _ _ _ => ts_nil) (fun _ _ _ _ _ => (e_fg (e_callT call_tuple (by rfl) z_tuple boot_tuple (a_cons (e_lc (scope := SC__law_called_4) (own := [("w", 7)]) (us := [7]) (l := false) (g := (aName 7)) (tt := aYes) (by rfl) sc__law_called.nd (i_seq (e_var (pv 10))) (by exact blkOk_by (N := N__law_called) (sc := SC__law_called_3r) (scope := SC__law_called_4) (own := [("w", 7)]) (by decide +kernel)) (fun _ _ _ _ _ => (g_name (i := 7) sc__law_called.nd rfl (by first | exact Or.inl rfl | exact Or.inr rfl))) (fun _ _ _ _ _ => ts_nil) (fun _ _ _ _ _ => (e_ix (e_var (pv 2)) (e_var (pv 7)))) (by decide)) a_nil)))) (by decide)) a_nil))))) (e_tup (a_cons (e_callT call_tuple (by rfl) z_tuple boot_tuple (a_cons (e_var (pv 3)) a_nil)) a_nil))))))))
def sp__law_fault : ASp := fun ds h R _ => ∃ P d, ds = [eP P, d] ∧ (∀ f ∈ P.fs, FOk f) ∧ (noRef d = true ∨ (Tyd h d ∧ ∃ a, d = .ref a)) ∧ (worldForm d = false → R (.str "form") h) ∧
  (∀ w, d = eW w → worldForm d = true → (w.letters.length = P.letters.length → w.letters.Nodup) ∧ (2100 < w.many → R (.tup [.str "worths", .int 2100]) h) ∧ (w.many ≤ 2100 → R (eO (worldFault P w)) h))
abbrev s__law_fault : Stmt := topS 40
def N__law_fault : List Str := ["program", "thing", "error"]
theorem sc__law_fault : FnScope N__law_fault ["program", "thing"] (defScope s__law_fault) := ⟨rfl, rfl, rfl, by decide +kernel, rfl, by decide +kernel, by decide +kernel⟩
def t__law_fault (C_BadWorld : Addr) (C_TooLarge : Addr) : AS :=
  (aSeq (aTry [C_BadWorld, C_TooLarge] 2 EO0 [(C_BadWorld, fun a_ dd => (aRet (aXf a_ dd "fault" (aVar 2)))), (C_TooLarge, fun a_ dd => (aRet (aTup (aCons (aXf a_ dd "what" (aVar 2)) (aCons (aXf a_ dd "limit" (aVar 2)) aNil)))))] fun EA => (aDrop (aCallS (sp_checked_world C_BadWorld C_TooLarge) EA (aCons (aVar 0) (aCons (aVar 1) aNil)))))
    (aRet (aC .non)))
theorem ok__law_fault {gd : Prop} {P : Program} {w : World} {K : PySem.W.Frag} {mg : Str → Option Value} {base : Heap} {f : Addr} {fd : FuncData} {C_BadWorld : Addr} {C_TooLarge : Addr} (F : FnP K "_law_fault" s__law_fault f fd) (c_checked_world : Cal gd P w K mg base 6 "checked_world" ["program", "thing"] (sp_checked_world C_BadWorld C_TooLarge)) (g_TooLarge : mg "TooLarge" = some (.ref C_TooLarge)) (g_BadWorld : mg "BadWorld" = some (.ref C_BadWorld)) (xq0 : ExcEq K [C_BadWorld, C_TooLarge]) (t_TooLarge : XfC K C_TooLarge) (t_BadWorld : XfC K C_BadWorld) (n_TooLarge_limit : PySem.W.findIn K (.ref C_TooLarge) "limit" = some none) (n_TooLarge_what : PySem.W.findIn K (.ref C_TooLarge) "what" = some none) (n_BadWorld_fault : PySem.W.findIn K (.ref C_BadWorld) "fault" = some none)
    (len : ∀ ds h R E, sp__law_fault ds h R E → ds.length = 2) (pure_ : ∀ ds h R E, sp__law_fault ds h R E → t__law_fault C_BadWorld C_TooLarge { nx := fun _ h' => fgR R .non h', rt := fgR R } (astart N__law_fault ds) h) :
    FnG gd P w K mg base 7 f fd ["program", "thing"] (upSp P w K sp__law_fault) := by
  refine afn0 (k := 6) F sc__law_fault len fun cdv A outer s H W ds h R E hr hG hsp tk => ⟨t__law_fault C_BadWorld C_TooLarge, ?_, pure_ ds h R E hsp⟩
  exact (b_cons0 (s_tryAs (i := 2) xq0 rfl rfl sc__law_fault.nd rfl rfl tk_EO0 (fun EA pn xe tkS HPt => (b0 (b_one (s_expr (e_calS c_checked_world hr hG (by rfl) tkS (a_cons (e_var (pv 0)) (a_cons (e_var (pv 1)) a_nil))))))) (.cons ⟨by rfl, by decide, .inl g_BadWorld⟩ (by simp) (fun a_ dd oe d_ pn hz hf hd => (b0 (b_one (s_ret (e_xf t_BadWorld n_BadWorld_fault hz hf hd (e_var (pv 2))))))) (.cons ⟨by rfl, by decide, .inl g_TooLarge⟩ (by simp) (fun a_ dd oe d_ pn hz hf hd => (b0 (b_one (s_ret (e_tup (a_cons (e_xf t_TooLarge n_TooLarge_what hz hf hd (e_var (pv 2))) (a_cons (e_xf t_TooLarge n_TooLarge_limit hz hf hd (e_var (pv 2))) a_nil))))))) .nil)))
    (b0 (b_one (s_ret e_non))))
def sp__law_bag : ASpF := fun l ns ds h R _ => ds = [.ref l] ∧ ns.length ≤ 63 ∧ ∀ p1 p2, h p1 = none → p2 ≠ p1 → h p2 = none → R (.ref p2) (aup (aup h p1 (.lst ((ns.map fun n => if n < 0 then -n else n).map D.int))) p2 (.lst [.int 0, .int 1234567891, .int 0, .ref p1]))
abbrev s__law_bag : Stmt := topS 30
def N__law_bag : List Str := ["script", "cell"]
theorem sc__law_bag : FnScope N__law_bag ["script"] (defScope s__law_bag) := ⟨rfl, rfl, rfl, by decide +kernel, rfl, by decide +kernel, by decide +kernel⟩
def SC__law_bag_0r : Scope := { kind := .function, names := [ (PySem.Str.ofString ".0", PySem.NameKind.local), (PySem.Str.ofString "cell", PySem.NameKind.local), (PySem.Str.ofString "abs", PySem.NameKind.globalImplicit)], isGenerator := false, isCoroutine := false, more := [] }
def SC__law_bag_0 : Scope := { kind := .function, names := [ (PySem.Str.ofString ".0", PySem.NameKind.local), (PySem.Str.ofString "cell", PySem.NameKind.local), (PySem.Str.ofString "abs", PySem.NameKind.globalImplicit)], isGenerator := false, isCoroutine := false, more := [] }
def t__law_bag (l_ : Addr) (ns_ : List Int) : AS :=
  (aRet (aLst (aCons (aC (.int 0)) (aCons (aC (.int 1234567891)) (aCons (aC (.int 0)) (aCons (aLc (iSeq (aScr l_ ns_ (aVar 0))) (aName 1) aYes (aCB cAbs (aCons (aVar 1) aNil)) [1]) aNil))))))
theorem ok__law_bag {gd : Prop} {P : Program} {w : World} {K : PySem.W.Frag} {mg : Str → Option Value} {base : Heap} {f : Addr} {fd : FuncData} (F : FnP K "_law_bag" s__law_bag f fd) (z_abs : mg "abs" = none)
    (len : ∀ l_ ns_ ds h R E, sp__law_bag l_ ns_ ds h R E → ds.length = 1) (pure_ : ∀ l_ ns_ ds h R E, sp__law_bag l_ ns_ ds h R E → t__law_bag l_ ns_ { nx := fun _ h' => fgR R .non h', rt := fgR R } (astart N__law_bag ds) h) :
    FnG gd P w K mg base 1 f fd ["script"] (upSpF P w K sp__law_bag) := by
  refine afnF (k := 0) F sc__law_bag len fun cdv A outer s H W ds h R E l_ ns_ hcd hr hG FL hsp => ⟨t__law_bag l_ ns_, ?_, pure_ l_ ns_ ds h R E hsp⟩
  exact (b0 (b_one (s_ret (e_lst (a_cons e_int (a_cons e_int (a_cons e_int (a_cons (e_lc (scope := SC__law_bag_0) (own := [("cell", 1)]) (us := [1]) (l := false) (g := (aName 1)) (tt := aYes) (by rfl) sc__law_bag.nd (i_seq (e_scr FL (e_var (pv 0)))) (by exact blkOk_by (N := N__law_bag) (sc := (defScope s__law_bag)) (scope := SC__law_bag_0) (own := [("cell", 1)]) (by decide +kernel)) (fun _ _ _ _ _ => (g_name (i := 1) sc__law_bag.nd rfl (by first | exact Or.inl rfl | exact Or.inr rfl))) (fun _ _ _ _ _ => ts_nil) (fun _ _ _ _ _ => (e_call call_abs (by rfl) z_abs boot_abs (a_cons (e_var (pv 1)) a_nil))) (by decide)) a_nil))))))))
abbrev s__law_refused : Stmt := topS 41
def N__law_refused : List Str := ["act"]
theorem sc__law_refused : FnScope N__law_refused ["act"] (defScope s__law_refused) := ⟨rfl, rfl, rfl, by decide +kernel, rfl, by decide +kernel, by decide +kernel⟩
abbrev sp_law : Addr → Str → ASpF := spLaw
abbrev s_law : Stmt := topS 43
def N_law : List Str := ["script", "bag", "lap", "program", "many", "world", "turn", "f", "parts", "how", "worths", "part", "due", "at", "a", "x", "k", "order", "other", "least", "row", "rows", "rest", "last", "tables", "bent", "table", "thing", "fault"]
theorem sc_law : FnScope N_law ["script"] (defScope s_law) := ⟨rfl, rfl, rfl, by decide +kernel, rfl, by decide +kernel, by decide +kernel⟩
def SC_law_0r : Scope := { kind := .function, names := [ (PySem.Str.ofString ".0", PySem.NameKind.local), (PySem.Str.ofString "part", PySem.NameKind.local), (PySem.Str.ofString "_law_take", PySem.NameKind.globalImplicit), (PySem.Str.ofString "bag", PySem.NameKind.cell), (PySem.Str.ofString "many", PySem.NameKind.cell)], isGenerator := false, isCoroutine := false, more := [] }
def SC_law_0 : Scope := { kind := .function, names := [ (PySem.Str.ofString ".0", PySem.NameKind.local), (PySem.Str.ofString "part", PySem.NameKind.local), (PySem.Str.ofString "_law_take", PySem.NameKind.globalImplicit), (PySem.Str.ofString "bag", PySem.NameKind.free), (PySem.Str.ofString "many", PySem.NameKind.free)], isGenerator := false, isCoroutine := false, more := [] }
def SC_law_1r : Scope := { kind := .function, names := [ (PySem.Str.ofString ".0", PySem.NameKind.local), (PySem.Str.ofString "k", PySem.NameKind.local), (PySem.Str.ofString "any_worth", PySem.NameKind.globalImplicit), (PySem.Str.ofString "world", PySem.NameKind.cell)], isGenerator := false, isCoroutine := false, more := [] }
def SC_law_1 : Scope := { kind := .function, names := [ (PySem.Str.ofString ".0", PySem.NameKind.local), (PySem.Str.ofString "k", PySem.NameKind.local), (PySem.Str.ofString "any_worth", PySem.NameKind.globalImplicit), (PySem.Str.ofString "world", PySem.NameKind.free)], isGenerator := false, isCoroutine := false, more := [] }
def SC_law_2r : Scope := { kind := .function, names := [ (PySem.Str.ofString ".0", PySem.NameKind.local), (PySem.Str.ofString "rows", PySem.NameKind.local), (PySem.Str.ofString "rest", PySem.NameKind.cell), (PySem.Str.ofString "tuple", PySem.NameKind.globalImplicit)], isGenerator := false, isCoroutine := false, more := [] }
def SC_law_2 : Scope := { kind := .function, names := [ (PySem.Str.ofString ".0", PySem.NameKind.local), (PySem.Str.ofString "rows", PySem.NameKind.local), (PySem.Str.ofString "rest", PySem.NameKind.cell), (PySem.Str.ofString "tuple", PySem.NameKind.globalImplicit)], isGenerator := false, isCoroutine := false, more := [] }
def SC_law_3r : Scope := { kind := .function, names := [ (PySem.Str.ofString ".0", PySem.NameKind.local), (PySem.Str.ofString "row", PySem.NameKind.local), (PySem.Str.ofString "rest", PySem.NameKind.cell)], isGenerator := false, isCoroutine := false, more := [] }
def SC_law_3 : Scope := { kind := .function, names := [ (PySem.Str.ofString ".0", PySem.NameKind.local), (PySem.Str.ofString "row", PySem.NameKind.local), (PySem.Str.ofString "rest", PySem.NameKind.free)], isGenerator := false, isCoroutine := false, more := [] }
def SC_law_4r : Scope := { kind := .function, names := [ (PySem.Str.ofString ".0", PySem.NameKind.local), (PySem.Str.ofString "table", PySem.NameKind.local), (PySem.Str.ofString "at", PySem.NameKind.cell), (PySem.Str.ofString "world", PySem.NameKind.cell)], isGenerator := false, isCoroutine := false, more := [] }
def SC_law_4 : Scope := { kind := .function, names := [ (PySem.Str.ofString ".0", PySem.NameKind.local), (PySem.Str.ofString "table", PySem.NameKind.local), (PySem.Str.ofString "at", PySem.NameKind.free), (PySem.Str.ofString "world", PySem.NameKind.free)], isGenerator := false, isCoroutine := false, more := [] }
def SC_law_5r : Scope := { kind := .function, names := [ (PySem.Str.ofString ".0", PySem.NameKind.local), (PySem.Str.ofString "thing", PySem.NameKind.local), (PySem.Str.ofString "fault", PySem.NameKind.local), (PySem.Str.ofString "_law_fault", PySem.NameKind.globalImplicit), (PySem.Str.ofString "program", PySem.NameKind.cell)], isGenerator := false, isCoroutine := false, more := [] }
def SC_law_5 : Scope := { kind := .function, names := [ (PySem.Str.ofString ".0", PySem.NameKind.local), (PySem.Str.ofString "thing", PySem.NameKind.local), (PySem.Str.ofString "fault", PySem.NameKind.local), (PySem.Str.ofString "_law_fault", PySem.NameKind.globalImplicit), (PySem.Str.ofString "program", PySem.NameKind.free)], isGenerator := false, isCoroutine := false, more := [] }
def SC_law_6r : Scope := { kind := .function, names := [ (PySem.Str.ofString "program", PySem.NameKind.cell), (PySem.Str.ofString "world", PySem.NameKind.cell), (PySem.Str.ofString "applied", PySem.NameKind.globalImplicit)], isGenerator := false, isCoroutine := false, more := [] }
def SC_law_6 : Scope := { kind := .function, names := [ (PySem.Str.ofString "program", PySem.NameKind.free), (PySem.Str.ofString "world", PySem.NameKind.free), (PySem.Str.ofString "applied", PySem.NameKind.globalImplicit)], isGenerator := false, isCoroutine := false, more := [] }
def SC_law_7r : Scope := { kind := .function, names := [ (PySem.Str.ofString "program", PySem.NameKind.cell), (PySem.Str.ofString "world", PySem.NameKind.cell), (PySem.Str.ofString "applied", PySem.NameKind.globalImplicit)], isGenerator := false, isCoroutine := false, more := [] }
def SC_law_7 : Scope := { kind := .function, names := [ (PySem.Str.ofString "program", PySem.NameKind.free), (PySem.Str.ofString "world", PySem.NameKind.free), (PySem.Str.ofString "applied", PySem.NameKind.globalImplicit)], isGenerator := false, isCoroutine := false, more := [] }
def SC_law_8r : Scope := { kind := .function, names := [ (PySem.Str.ofString "program", PySem.NameKind.cell), (PySem.Str.ofString "world", PySem.NameKind.cell), (PySem.Str.ofString "letter_worth", PySem.NameKind.globalImplicit)], isGenerator := false, isCoroutine := false, more := [] }
def SC_law_8 : Scope := { kind := .function, names := [ (PySem.Str.ofString "program", PySem.NameKind.free), (PySem.Str.ofString "world", PySem.NameKind.free), (PySem.Str.ofString "letter_worth", PySem.NameKind.globalImplicit)], isGenerator := false, isCoroutine := false, more := [] }
def q_law : Str := (envOfC "law" (defScope s_law) 0 0 .none).qual ++ "<lambda>"
def t_law (C_BadWorld : Addr) (C_TooLarge : Addr) (C_Nothing : Addr) (l_ : Addr) (ns_ : List Int) (T_ : Addr) : AS :=
  (aSeq (aSet 1 (aCallF sp__law_bag l_ ns_ (aCons (aVar 0) aNil)))
    (aSeq (aFor (iRg1 (aCons (aC (.int 4)) aNil)) (aName 2) (aSeq (aSet 3 (aCall sp__law_wide_frame AX0 (aCons (aVar 1) aNil)))
    (aSeq (aSet 4 (aOp rAdd (aOp rAdd (aCB cLen (aCons (aOp rIx (aVar 3) (aC (.int 1))) aNil)) (aC (.int 1))) (aCall sp__law_take AX0 (aCons (aVar 1) (aCons (aC (.int 3)) aNil)))))
    (aSeq (aSet 5 (aCall sp__law_world AX0 (aCons (aVar 1) (aCons (aVar 3) (aCons (aVar 4) (aCons (aCall sp__law_take AX0 (aCons (aVar 1) (aCons (aC (.int 4)) aNil))) aNil))))))
    (aSeq (aIfS (aTest (aOp rNe (aCall (sp_checked_world C_BadWorld C_TooLarge) AX0 (aCons (aVar 3) (aCons (aVar 5) aNil))) (aVar 5))) (aRet (aC (.bl false))) aNext)
    (aSeq (aFor (iRg1 (aCons (aC (.int 6)) aNil)) (aName 6) (aSeq (aAsg (aFg (aCall sp__law_some AX0 (aCons (aVar 1) (aCons (aCB cList (aCons (aOp rIx (aVar 3) (aC (.int 0))) aNil)) aNil)))) (aGTup 3 (aGCons (aName 7) (aGCons (aName 8) (aGCons (aName 9) aGNil)))))
    (aSeq (aSet 10 (aFg (aCB cTuple (aCons (aLc (iRg1 (aCons (aVar 8) aNil)) (aName 11) aYes (aCall sp__law_take AX0 (aCons (aVar 1) (aCons (aVar 4) aNil))) [11]) aNil))))
    (aSeq (aSet 12 (aFg (aCall sp__law_applied AX0 (aCons (aVar 3) (aCons (aVar 5) (aCons (aVar 7) (aCons (aCB cList (aCons (aVar 10) aNil)) aNil)))))))
    (aIfS (aOr (aNot (aTest (aCall sp__law_alike AX0 (aCons (aCall (sp_applied C_Nothing) AX0 (aCons (aVar 3) (aCons (aVar 5) (aCons (aVar 7) (aCons (aVar 10) aNil))))) (aCons (aVar 12) aNil))))) (aAnd (aTest (aOp rEq (aVar 9) (aC (.str "either")))) (aFgT (aTest (aOp rNe (aFg (aCall (sp_applied C_Nothing) AX0 (aCons (aVar 3) (aCons (aVar 5) (aCons (aVar 7) (aCons (aRev (aVar 10)) aNil)))))) (aVar 12)))))) (aRet (aC (.bl false))) aNext)))))
    (aSeq (aFor (iEn (aOp rIx (aVar 3) (aC (.int 1)))) (aGTup 2 (aGCons (aName 13) (aGCons (aName 14) aGNil))) (aIfS (aTest (aOp rNe (aCall (sp_letter_worth C_Nothing) AX0 (aCons (aVar 3) (aCons (aVar 5) (aCons (aVar 14) aNil)))) (aOp rIx (aOp rIx (aVar 5) (aC (.int 1))) (aVar 13)))) (aRet (aC (.bl false))) aNext))
    (aSeq (aFor (iEn (aOp rIx (aVar 3) (aC (.int 3)))) (aGTup 2 (aGCons (aName 13) (aGCons (aName 15) aGNil))) (aIfS (aTest (aOp rNe (aCall (sp_input_worth C_Nothing) AX0 (aCons (aVar 3) (aCons (aVar 5) (aCons (aVar 15) aNil)))) (aOp rIx (aOp rIx (aVar 5) (aC (.int 2))) (aVar 13)))) (aRet (aC (.bl false))) aNext))
    (aSeq (aIfS (aFgT (aTest (aOp rNe (aLc (iRg1 (aCons (aC (.int 6)) aNil)) (aName 16) aYes (aCall (sp_any_worth C_Nothing) AX0 (aCons (aVar 5) (aCons (aVar 16) aNil))) [16]) (aSl (aOp rAdd (aCB cList (aCons (aOp rIx (aVar 5) (aC (.int 3))) aNil)) (aOp rMul (aLst (aCons (aC (.int 0)) aNil)) (aC (.int 6)))) aNoPart (aPart (aC (.int 6))))))) (aRet (aC (.bl false))) aNext)
    (aSeq (aSet 17 (aFg (aCB cTuple (aCons (aFg (aCall sp__law_mixed AX0 (aCons (aVar 1) (aCons (aListRg (aVar 4)) aNil)))) aNil))))
    (aSeq (aPar 18 19 (aCons (aCall (sp_put_otherwise C_Nothing) AX0 (aCons (aVar 3) (aCons (aVar 5) (aCons (aVar 17) aNil)))) (aCons (aCall sp_least_world AX0 (aCons (aVar 3) (aCons (aVar 5) aNil))) aNil)))
    (aSeq (aIfS (aNot (aTest (aCall sp__law_alike AX0 (aCons (aVar 18) (aCons (aCall sp__law_called AX0 (aCons (aVar 3) (aCons (aVar 5) (aCons (aVar 17) aNil)))) aNil))))) (aRet (aC (.bl false))) aNext)
    (aSeq (aSet 12 (aFg (aCB cTuple (aCons (aLc (iSeq (aOp rIx (aVar 5) (aC (.int 4)))) (aGTup 2 (aGCons (aName 21) (aGCons (aName 22) aGNil))) aYes (aTup (aCons (aFg (aCB cTuple (aCons (aLc (iSeq (aVar 21)) (aName 20) (aTest (aOp rNe (aOp rIx (aVar 20) (aC (.int 1))) (aVar 22))) (aVar 20) [20]) aNil))) (aCons (aVar 22) aNil))) [21, 22]) aNil))))
    (aSeq (aIfS (aNot (aTest (aFg (aCall sp__law_alike AX0 (aCons (aVar 19) (aCons (aOp rAdd (aSl (aVar 5) aNoPart (aPart (aC (.int 4)))) (aTup (aCons (aVar 12) aNil))) aNil)))))) (aRet (aC (.bl false))) aNext)
    (aSeq (aSet 13 (aOp (rI2 (fun _ _ => True) fun i j => .int (i - j)) (aCB cLen (aCons (aOp rIx (aVar 3) (aC (.int 0))) aNil)) (aC (.int 1))))
    (aSeq (aSet 23 (aOp rMul (aTup (aCons (aOp (rI2 (fun _ _ => True) fun i j => .int (i - j)) (aVar 4) (aC (.int 1))) aNil)) (aC (.int 3))))
    (aSeq (aSet 24 (aLst (aCons (aTup (aCons (aTup (aCons (aTup (aCons (aTup (aCons (aC (.int 0)) (aCons (aC (.int 0)) aNil))) (aCons (aC (.int 0)) aNil))) aNil)) (aCons (aC (.int 0)) aNil))) (aCons (aTup (aCons (aTup (aCons (aTup (aCons (aTup (aCons (aC (.int 0)) (aCons (aC (.int 0)) (aCons (aVar 4) aNil)))) (aCons (aC (.int 0)) aNil))) aNil)) (aCons (aC (.int 0)) aNil))) (aCons (aTup (aCons (aTup (aCons (aTup (aCons (aTup (aCons (aC (.int 0)) (aCons (aC (.int 0)) (aCons (aC (.int 1)) aNil)))) (aCons (aC (.int 0)) aNil))) (aCons (aTup (aCons (aTup (aCons (aC (.int 0)) (aCons (aC (.int 0)) (aCons (aC (.int 0)) aNil)))) (aCons (aC (.int 0)) aNil))) aNil))) (aCons (aC (.int 0)) aNil))) (aCons (aTup (aCons (aTup (aCons (aTup (aCons (aVar 23) (aCons (aC (.int 0)) aNil))) (aCons (aTup (aCons (aVar 23) (aCons (aC (.int 0)) aNil))) aNil))) (aCons (aC (.int 0)) aNil))) (aCons (aTup (aCons (aTup (aCons (aTup (aCons (aVar 23) (aCons (aVar 4) aNil))) aNil)) (aCons (aC (.int 0)) aNil))) (aCons (aTup (aCons (aTup aNil) (aCons (aVar 4) aNil))) aNil))))))))
    (aSeq (aSet 25 (aLc (iSeq (aVar 24)) (aName 26) aYes (aTup (aCons (aOp rAdd (aSl (aVar 5) aNoPart (aPart (aC (.int 4)))) (aTup (aCons (aOp rAdd (aSl (aOp rIx (aVar 5) (aC (.int 4))) aNoPart (aPart (aVar 13))) (aTup (aCons (aVar 26) aNil))) aNil))) (aCons (aC (.str "functions")) aNil))) [26]))
    (aSeq (aSet 25 (aOp rAdd (aVar 25) (aLst (aCons (aTup (aCons (aOp rAdd (aTup (aCons (aC (.int 0)) aNil)) (aSl (aVar 5) (aPart (aC (.int 1))) aNoPart)) (aCons (aC (.str "many")) aNil))) (aCons (aTup (aCons (aOp rAdd (aOp rAdd (aSl (aVar 5) aNoPart (aPart (aC (.int 1)))) (aTup (aCons (aOp rMul (aTup (aCons (aC (.int 0)) aNil)) (aOp rAdd (aCB cLen (aCons (aOp rIx (aVar 3) (aC (.int 1))) aNil)) (aC (.int 1)))) aNil))) (aSl (aVar 5) (aPart (aC (.int 2))) aNoPart)) (aCons (aC (.str "letters")) aNil))) (aCons (aTup (aCons (aOp rAdd (aSl (aVar 5) aNoPart (aPart (aC (.int 4)))) (aTup (aCons (aSl (aOp rIx (aVar 5) (aC (.int 4))) aNoPart (aPart (aVar 13))) aNil))) (aCons (aC (.str "functions")) aNil))) aNil))))))
    (aSeq (aSet 25 (aOp rAdd (aVar 25) (aLst (aCons (aTup (aCons (aCB cList (aCons (aVar 5) aNil)) (aCons (aC (.str "form")) aNil))) (aCons (aTup (aCons (aSl (aVar 5) aNoPart (aPart (aC (.int 4)))) (aCons (aC (.str "form")) aNil))) aNil)))))
    (aSeq (aIfS (aFgT (aTest (aOp rNe (aLc (iSeq (aVar 25)) (aGTup 2 (aGCons (aName 27) (aGCons (aName 28) aGNil))) (aTest (aOp rNe (aCall sp__law_fault AX0 (aCons (aVar 3) (aCons (aVar 27) aNil))) (aVar 28))) (aVar 27) [27, 28]) (aLst aNil)))) (aRet (aC (.bl false))) aNext)
    (aSeq (aIfS (aOr (aNot (aTest (aRef C_Nothing T_ q_law fun EA => (aCall (sp_applied C_Nothing) EA (aCons (aVar 3) (aCons (aVar 5) (aCons (aC (.str "k")) (aCons (aTup (aCons (aC (.int 0)) (aCons (aC (.int 0)) aNil))) aNil)))))))) (aFgT (aTest (aOp rNe (aFg (aCall sp__law_fault AX0 (aCons (aVar 3) (aCons (aOp rAdd (aTup (aCons (aC (.int 2101)) aNil)) (aSl (aVar 5) (aPart (aC (.int 1))) aNoPart)) aNil)))) (aTup (aCons (aC (.str "worths")) (aCons (aC (.int 2100)) aNil))))))) (aRet (aC (.bl false))) aNext)
    (aSeq (aIfS (aNot (aTest (aRef C_Nothing T_ q_law fun EA => (aCall (sp_applied C_Nothing) EA (aCons (aVar 3) (aCons (aVar 5) (aCons (aC (.str "q")) (aCons (aTup (aCons (aC (.int 0)) aNil)) aNil)))))))) (aRet (aC (.bl false))) aNext)
    (aIfS (aNot (aTest (aRef C_Nothing T_ q_law fun EA => (aCall (sp_letter_worth C_Nothing) EA (aCons (aVar 3) (aCons (aVar 5) (aCons (aC (.str "q")) aNil))))))) (aRet (aC (.bl false))) aNext))))))))))))))))))))))))
    (aRet (aC (.bl true)))))
theorem ok_law {P : Program} {w : World} {K : PySem.W.Frag} {mg : Str → Option Value} {base : Heap} {f : Addr} {fd : FuncData} {C_BadWorld : Addr} {C_TooLarge : Addr} {C_Nothing : Addr} {c_ T_ : Addr} (F : FnP K "law" s_law f fd) (cF__law_bag : CalF True P w K mg base 1 "_law_bag" ["script"] sp__law_bag) (cL_applied : Cal False P w K mg base 4 "applied" ["program", "world", "f", "worths"] (sp_applied C_Nothing)) (cL_letter_worth : Cal False P w K mg base 3 "letter_worth" ["program", "world", "a"] (sp_letter_worth C_Nothing)) {f__law_refused : Addr} {fd__law_refused : FuncData} (F__law_refused : FnP K "_law_refused" s__law_refused f__law_refused fd__law_refused) (m__law_refused : mg "_law_refused" = some (.ref f__law_refused)) (b__law_refused : L2.Binds K fd__law_refused ["act"] []) (xr_Nothing : PySem.W.exmOne K (.ref C_Nothing) (.ref C_Nothing) = some true) (c__law_wide_frame : Cal True P w K mg base 3 "_law_wide_frame" ["bag"] sp__law_wide_frame) (c__law_take : Cal True P w K mg base 1 "_law_take" ["bag", "many"] sp__law_take) (c__law_world : Cal True P w K mg base 3 "_law_world" ["bag", "program", "many", "anys"] sp__law_world) (c_checked_world : Cal True P w K mg base 6 "checked_world" ["program", "thing"] (sp_checked_world C_BadWorld C_TooLarge)) (c__law_some : Cal True P w K mg base 2 "_law_some" ["bag", "things"] sp__law_some) (c__law_applied : Cal True P w K mg base 1 "_law_applied" ["program", "world", "f", "worths"] sp__law_applied) (c__law_alike : Cal True P w K mg base 1 "_law_alike" ["found", "due"] sp__law_alike) (c_applied : Cal True P w K mg base 4 "applied" ["program", "world", "f", "worths"] (sp_applied C_Nothing)) (c_letter_worth : Cal True P w K mg base 3 "letter_worth" ["program", "world", "a"] (sp_letter_worth C_Nothing)) (c_input_worth : Cal True P w K mg base 3 "input_worth" ["program", "world", "x"] (sp_input_worth C_Nothing)) (c_any_worth : Cal True P w K mg base 3 "any_worth" ["world", "k"] (sp_any_worth C_Nothing)) (c__law_mixed : Cal True P w K mg base 2 "_law_mixed" ["bag", "things"] sp__law_mixed) (c_least_world : Cal True P w K mg base 1 "least_world" ["program", "world"] sp_least_world) (c_put_otherwise : Cal True P w K mg base 4 "put_otherwise" ["program", "world", "order"] (sp_put_otherwise C_Nothing)) (c__law_called : Cal True P w K mg base 1 "_law_called" ["program", "world", "order"] sp__law_called) (c__law_fault : Cal True P w K mg base 7 "_law_fault" ["program", "thing"] sp__law_fault) (z_range : mg "range" = none) (z_len : mg "len" = none) (z_list : mg "list" = none) (z_tuple : mg "tuple" = none) (z_enumerate : mg "enumerate" = none) (g_Nothing : mg "Nothing" = some (.ref C_Nothing)) (hcode : fd.code = .ref c_) (TB : LamX.TabB base mg c_ T_)
    (len : ∀ l_ ns_ ds h R E, (sp_law T_ q_law) l_ ns_ ds h R E → ds.length = 1) (pure_ : ∀ l_ ns_ ds h R E, (sp_law T_ q_law) l_ ns_ ds h R E → t_law C_BadWorld C_TooLarge C_Nothing l_ ns_ T_ { nx := fun _ h' => fgR R .non h', rt := fgR R } (astart N_law ds) h) :
    FnG True P w K mg base 10 f fd ["script"] (upSpF P w K (sp_law T_ q_law)) := by
  obtain ⟨oc__law_refused, od__law_refused, dV__law_refused, kV__law_refused, doc__law_refused, pm__law_refused, an__law_refused, cd__law_refused, ct__law_refused, osl__law_refused, er__law_refused, lk__law_refused, hc__law_refused, _, _⟩ := F__law_refused.ex
  have k__law_refused := F__law_refused.kp
  subst er__law_refused
  refine afnF (k := 9) F sc_law len fun cdv A outer s H W ds h R E l_ ns_ hcd hr hG FL hsp => ⟨t_law C_BadWorld C_TooLarge C_Nothing l_ ns_ T_, ?_, pure_ l_ ns_ ds h R E hsp⟩
  have hcv : cdv = .ref c_ := hcd.symm.trans hcode
  have HP : PassesOwn (model P w) (A.deeper (envOfC "law" (defScope s_law) s.heap.objs.size f cdv)) (envOfC "law" (defScope s_law) s.heap.objs.size f cdv) (cxOf (L2.CX P w) P w K mg base N_law "law" (defScope s_law) f cdv A outer s H W).xe := passes_of (X := cxOf (L2.CX P w) P w K mg base N_law "law" (defScope s_law) f cdv A outer s H W) rfl
  exact (b0 (b_cons (s_set (i := 1) sc_law.nd rfl (by first | exact Or.inl rfl | exact Or.inr rfl) (e_calF FL cF__law_bag hr hG (by rfl) (a_cons (e_var (pv 0)) a_nil)))
    (b_cons (s_for HP (by rfl) (i_range1 (by rfl) z_range (a_cons e_int a_nil)) (g_name (i := 2) sc_law.nd rfl (by first | exact Or.inl rfl | exact Or.inr rfl)) (b_cons (s_set (i := 3) sc_law.nd rfl (by first | exact Or.inl rfl | exact Or.inr rfl) (e_cal c__law_wide_frame hr hG (by rfl) xpass0 (a_cons (e_var (pv 1)) a_nil)))
    (b_cons (s_set (i := 4) sc_law.nd rfl (by first | exact Or.inl rfl | exact Or.inr rfl) (e_op o_add (e_op o_add (e_call call_len (by rfl) z_len boot_len (a_cons (e_ix (e_var (pv 3)) e_int) a_nil)) e_int) (e_cal c__law_take hr hG (by rfl) xpass0 (a_cons (e_var (pv 1)) (a_cons e_int a_nil)))))
    (b_cons (s_set (i := 5) sc_law.nd rfl (by first | exact Or.inl rfl | exact Or.inr rfl) (e_cal c__law_world hr hG (by rfl) xpass0 (a_cons (e_var (pv 1)) (a_cons (e_var (pv 3)) (a_cons (e_var (pv 4)) (a_cons (e_cal c__law_take hr hG (by rfl) xpass0 (a_cons (e_var (pv 1)) (a_cons e_int a_nil))) a_nil))))))
    (b_cons (s_if (t_cmp (o_ne hr.units) (e_cal c_checked_world hr hG (by rfl) xpass0 (a_cons (e_var (pv 3)) (a_cons (e_var (pv 5)) a_nil))) (e_var (pv 5)) (by first | exact nomark _ | rfl)) (b_one (s_ret e_bl)) b_nil)
    (b_cons (s_for HP (by rfl) (i_range1 (by rfl) z_range (a_cons e_int a_nil)) (g_name (i := 6) sc_law.nd rfl (by first | exact Or.inl rfl | exact Or.inr rfl)) (b_cons (s_asg (e_fg (e_cal c__law_some hr hG (by rfl) xpass0 (a_cons (e_var (pv 1)) (a_cons (e_callT call_list (by rfl) z_list boot_list (a_cons (e_ix (e_var (pv 3)) e_int) a_nil)) a_nil)))) (g_tup (by rfl) (gs_cons (g_name (i := 7) sc_law.nd rfl (by first | exact Or.inl rfl | exact Or.inr rfl)) (gs_cons (g_name (i := 8) sc_law.nd rfl (by first | exact Or.inl rfl | exact Or.inr rfl)) (gs_cons (g_name (i := 9) sc_law.nd rfl (by first | exact Or.inl rfl | exact Or.inr rfl)) gs_nil)))))
    (b_cons (s_set (i := 10) sc_law.nd rfl (by first | exact Or.inl rfl | exact Or.inr rfl) (e_fg (e_callT call_tuple (by rfl) z_tuple boot_tuple (a_cons (e_lc (scope := SC_law_0) (own := [("part", 11)]) (us := [11]) (l := false) (g := (aName 11)) (tt := aYes) (by rfl) sc_law.nd (i_range1 (by rfl) z_range (a_cons (e_var (pv 8)) a_nil)) (by exact blkOk_by (N := N_law) (sc := (defScope s_law)) (scope := SC_law_0) (own := [("part", 11)]) (by decide +kernel)) (fun _ _ _ _ _ => (g_name (i := 11) sc_law.nd rfl (by first | exact Or.inl rfl | exact Or.inr rfl))) (fun _ _ _ _ _ => ts_nil) (fun _ _ _ _ _ => (e_cal c__law_take hr hG (by rfl) xpass0 (a_cons (e_var (pv 1)) (a_cons (e_var (pv 4)) a_nil)))) (by decide)) a_nil))))
    (b_cons (s_set (i := 12) sc_law.nd rfl (by first | exact Or.inl rfl | exact Or.inr rfl) (e_fg (e_cal c__law_applied hr hG (by rfl) xpass0 (a_cons (e_var (pv 3)) (a_cons (e_var (pv 5)) (a_cons (e_var (pv 7)) (a_cons (e_callT call_list (by rfl) z_list boot_list (a_cons (e_var (pv 10)) a_nil)) a_nil)))))))
    (b_one (s_if (PW.pt (w_or (t_not (t_val (e_cal c__law_alike hr hG (by rfl) xpass0 (a_cons (e_cal c_applied hr hG (by rfl) xpass0 (a_cons (e_var (pv 3)) (a_cons (e_var (pv 5)) (a_cons (e_var (pv 7)) (a_cons (e_var (pv 10)) a_nil))))) (a_cons (e_var (pv 12)) a_nil))) (by intro _; rfl))) (w_or1 (PW.pt (w_and (t_cmp (o_eq hr.units) (e_var (pv 9)) e_str (by first | exact nomark _ | rfl)) (w_and1 (t_fg (t_cmp (o_ne hr.units) (e_fg (e_cal c_applied hr hG (by rfl) xpass0 (a_cons (e_var (pv 3)) (a_cons (e_var (pv 5)) (a_cons (e_var (pv 7)) (a_cons (e_rev (e_var (pv 10))) a_nil)))))) (e_var (pv 12)) (by first | exact nomark _ | rfl))))))))) (b_one (s_ret e_bl)) b_nil))))))
    (b_cons (s_for HP (by rfl) (i_enum (by rfl) z_enumerate (e_ix (e_var (pv 3)) e_int)) (g_tup (by rfl) (gs_cons (g_name (i := 13) sc_law.nd rfl (by first | exact Or.inl rfl | exact Or.inr rfl)) (gs_cons (g_name (i := 14) sc_law.nd rfl (by first | exact Or.inl rfl | exact Or.inr rfl)) gs_nil))) (b_one (s_if (t_cmp (o_ne hr.units) (e_cal c_letter_worth hr hG (by rfl) xpass0 (a_cons (e_var (pv 3)) (a_cons (e_var (pv 5)) (a_cons (e_var (pv 14)) a_nil)))) (e_ix (e_ix (e_var (pv 5)) e_int) (e_var (pv 13))) (by first | exact nomark _ | rfl)) (b_one (s_ret e_bl)) b_nil)))
    (b_cons (s_for HP (by rfl) (i_enum (by rfl) z_enumerate (e_ix (e_var (pv 3)) e_int)) (g_tup (by rfl) (gs_cons (g_name (i := 13) sc_law.nd rfl (by first | exact Or.inl rfl | exact Or.inr rfl)) (gs_cons (g_name (i := 15) sc_law.nd rfl (by first | exact Or.inl rfl | exact Or.inr rfl)) gs_nil))) (b_one (s_if (t_cmp (o_ne hr.units) (e_cal c_input_worth hr hG (by rfl) xpass0 (a_cons (e_var (pv 3)) (a_cons (e_var (pv 5)) (a_cons (e_var (pv 15)) a_nil)))) (e_ix (e_ix (e_var (pv 5)) e_int) (e_var (pv 13))) (by first | exact nomark _ | rfl)) (b_one (s_ret e_bl)) b_nil)))
    (b_cons (s_if (t_fg (t_cmp (o_ne hr.units) (e_lc (scope := SC_law_1) (own := [("k", 16)]) (us := [16]) (l := false) (g := (aName 16)) (tt := aYes) (by rfl) sc_law.nd (i_range1 (by rfl) z_range (a_cons e_int a_nil)) (by exact blkOk_by (N := N_law) (sc := (defScope s_law)) (scope := SC_law_1) (own := [("k", 16)]) (by decide +kernel)) (fun _ _ _ _ _ => (g_name (i := 16) sc_law.nd rfl (by first | exact Or.inl rfl | exact Or.inr rfl))) (fun _ _ _ _ _ => ts_nil) (fun _ _ _ _ _ => (e_cal c_any_worth hr hG (by rfl) xpass0 (a_cons (e_var (pv 5)) (a_cons (e_var (pv 16)) a_nil)))) (by decide)) (e_sl (e_op o_add (e_callT call_list (by rfl) z_list boot_list (a_cons (e_ix (e_var (pv 5)) e_int) a_nil)) (e_op o_mul (e_lst (a_cons e_int a_nil)) e_int)) p_none (p_some e_int)) (by first | exact nomark _ | rfl))) (b_one (s_ret e_bl)) b_nil)
    (b_cons (s_set (i := 17) sc_law.nd rfl (by first | exact Or.inl rfl | exact Or.inr rfl) (e_fg (e_callT call_tuple (by rfl) z_tuple boot_tuple (a_cons (e_fg (e_cal c__law_mixed hr hG (by rfl) xpass0 (a_cons (e_var (pv 1)) (a_cons (e_listRg rfl (by rfl) z_list (by rfl) z_range (e_var (pv 4))) a_nil)))) a_nil))))
    (b_cons (s_par (i := 18) (j := 19) (by rfl) sc_law.nd rfl rfl (by decide) (by rfl) (by rfl) (a_cons (e_cal c_put_otherwise hr hG (by rfl) xpass0 (a_cons (e_var (pv 3)) (a_cons (e_var (pv 5)) (a_cons (e_var (pv 17)) a_nil)))) (a_cons (e_cal c_least_world hr hG (by rfl) xpass0 (a_cons (e_var (pv 3)) (a_cons (e_var (pv 5)) a_nil))) a_nil)) (by rfl))
    (b_cons (s_if (t_not (t_val (e_cal c__law_alike hr hG (by rfl) xpass0 (a_cons (e_var (pv 18)) (a_cons (e_cal c__law_called hr hG (by rfl) xpass0 (a_cons (e_var (pv 3)) (a_cons (e_var (pv 5)) (a_cons (e_var (pv 17)) a_nil)))) a_nil))) (by intro _; rfl))) (b_one (s_ret e_bl)) b_nil)
    (b_cons (s_set (i := 12) sc_law.nd rfl (by first | exact Or.inl rfl | exact Or.inr rfl) (e_fg (e_callT call_tuple (by rfl) z_tuple boot_tuple (a_cons (e_lc (scope := SC_law_2) (own := [("rows", 21), ("rest", 22)]) (us := [21, 22]) (l := false) (g := (aGTup 2 (aGCons (aName 21) (aGCons (aName 22) aGNil)))) (tt := aYes) (by rfl) sc_law.nd (i_seq (e_ix (e_var (pv 5)) e_int)) (by exact blkOk_by (N := N_law) (sc := (defScope s_law)) (scope := SC_law_2) (own := [("rows", 21), ("rest", 22)]) (by decide +kernel)) (fun _ _ _ _ _ => (g_tup (by rfl) (gs_cons (g_name (i := 21) sc_law.nd rfl (by first | exact Or.inl rfl | exact Or.inr rfl)) (gs_cons (g_name (i := 22) sc_law.nd rfl (by first | exact Or.inl rfl | exact Or.inr rfl)) gs_nil)))) (fun _ _ _ _ _ => ts_nil) (fun _ _ _ _ _ => (e_tup (a_cons (e_fg (e_callT call_tuple (by rfl) z_tuple boot_tuple (a_cons (e_lc (scope := SC_law_3) (own := [("row", 20)]) (us := [20]) (l := false) (g := (aName 20)) (tt := (aTest (aOp rNe (aOp rIx (aVar 20) (aC (.int 1))) (aVar 22)))) (by rfl) sc_law.nd (i_seq (e_var (pv 21))) (by exact blkOk_by (N := N_law) (sc := SC_law_2r) (scope := SC_law_3) (own := [("row", 20)]) (by decide +kernel)) (fun _ _ _ _ _ => (g_name (i := 20) sc_law.nd rfl (by first | exact Or.inl rfl | exact Or.inr rfl))) (fun _ _ _ _ _ => (ts_one (t_cmp (o_ne hr.units) (e_ix (e_var (pv 20)) e_int) (e_var (pv 22)) (by first | exact nomark _ | rfl)))) (fun _ _ _ _ _ => (e_var (pv 20))) (by decide)) a_nil))) (a_cons (e_var (pv 22)) a_nil)))) (by decide)) a_nil))))
    (b_cons (s_if (t_not (t_val (e_fg (e_cal c__law_alike hr hG (by rfl) xpass0 (a_cons (e_var (pv 19)) (a_cons (e_op o_add (e_sl (e_var (pv 5)) p_none (p_some e_int)) (e_tup (a_cons (e_var (pv 12)) a_nil))) a_nil)))) (by intro _; rfl))) (b_one (s_ret e_bl)) b_nil)
    (b_cons (s_set (i := 13) sc_law.nd rfl (by first | exact Or.inl rfl | exact Or.inr rfl) (e_op o_sub (e_call call_len (by rfl) z_len boot_len (a_cons (e_ix (e_var (pv 3)) e_int) a_nil)) e_int))
    (b_cons (s_set (i := 23) sc_law.nd rfl (by first | exact Or.inl rfl | exact Or.inr rfl) (e_op o_mul (e_tup (a_cons (e_op o_sub (e_var (pv 4)) e_int) a_nil)) e_int))
    (b_cons (s_set (i := 24) sc_law.nd rfl (by first | exact Or.inl rfl | exact Or.inr rfl) (e_lst (a_cons (e_tup (a_cons (e_tup (a_cons (e_tup (a_cons (e_tup (a_cons e_int (a_cons e_int a_nil))) (a_cons e_int a_nil))) a_nil)) (a_cons e_int a_nil))) (a_cons (e_tup (a_cons (e_tup (a_cons (e_tup (a_cons (e_tup (a_cons e_int (a_cons e_int (a_cons (e_var (pv 4)) a_nil)))) (a_cons e_int a_nil))) a_nil)) (a_cons e_int a_nil))) (a_cons (e_tup (a_cons (e_tup (a_cons (e_tup (a_cons (e_tup (a_cons e_int (a_cons e_int (a_cons e_int a_nil)))) (a_cons e_int a_nil))) (a_cons (e_tup (a_cons (e_tup (a_cons e_int (a_cons e_int (a_cons e_int a_nil)))) (a_cons e_int a_nil))) a_nil))) (a_cons e_int a_nil))) (a_cons (e_tup (a_cons (e_tup (a_cons (e_tup (a_cons (e_var (pv 23)) (a_cons e_int a_nil))) (a_cons (e_tup (a_cons (e_var (pv 23)) (a_cons e_int a_nil))) a_nil))) (a_cons e_int a_nil))) (a_cons (e_tup (a_cons (e_tup (a_cons (e_tup (a_cons (e_var (pv 23)) (a_cons (e_var (pv 4)) a_nil))) a_nil)) (a_cons e_int a_nil))) (a_cons (e_tup (a_cons (e_tup a_nil) (a_cons (e_var (pv 4)) a_nil))) a_nil))))))))
    (b_cons (s_setLc (X := cxOf (L2.CX P w) P w K mg base N_law "law" (defScope s_law) f cdv A outer s H W) (i := 25) (scope := SC_law_4) (own := [("table", 26)]) (us := [26]) (l := false) (g := (aName 26)) (tt := aYes) (by rfl) sc_law.nd rfl (by rfl) (by rfl) (i_seq (e_var (pv 24))) (by exact blkOk_by (N := N_law) (sc := (defScope s_law)) (scope := SC_law_4) (own := [("table", 26)]) (by decide +kernel)) (fun _ _ _ _ _ => (g_name (i := 26) sc_law.nd rfl (by first | exact Or.inl rfl | exact Or.inr rfl))) (fun _ _ _ _ _ => ts_nil) (fun _ _ _ _ _ => (e_tup (a_cons (e_op o_add (e_sl (e_var (pv 5)) p_none (p_some e_int)) (e_tup (a_cons (e_op o_add (e_sl (e_ix (e_var (pv 5)) e_int) p_none (p_some (e_var (pv 13)))) (e_tup (a_cons (e_var (pv 26)) a_nil))) a_nil))) (a_cons e_str a_nil)))) (by decide))
    (b_cons (s_set (i := 25) sc_law.nd rfl (by first | exact Or.inl rfl | exact Or.inr rfl) (e_op o_add (e_var (pv 25)) (e_lst (a_cons (e_tup (a_cons (e_op o_add (e_tup (a_cons e_int a_nil)) (e_sl (e_var (pv 5)) (p_some e_int) p_none)) (a_cons e_str a_nil))) (a_cons (e_tup (a_cons (e_op o_add (e_op o_add (e_sl (e_var (pv 5)) p_none (p_some e_int)) (e_tup (a_cons (e_op o_mul (e_tup (a_cons e_int a_nil)) (e_op o_add (e_call call_len (by rfl) z_len boot_len (a_cons (e_ix (e_var (pv 3)) e_int) a_nil)) e_int)) a_nil))) (e_sl (e_var (pv 5)) (p_some e_int) p_none)) (a_cons e_str a_nil))) (a_cons (e_tup (a_cons (e_op o_add (e_sl (e_var (pv 5)) p_none (p_some e_int)) (e_tup (a_cons (e_sl (e_ix (e_var (pv 5)) e_int) p_none (p_some (e_var (pv 13)))) a_nil))) (a_cons e_str a_nil))) a_nil))))))
    (b_cons (s_set (i := 25) sc_law.nd rfl (by first | exact Or.inl rfl | exact Or.inr rfl) (e_op o_add (e_var (pv 25)) (e_lst (a_cons (e_tup (a_cons (e_callT call_list (by rfl) z_list boot_list (a_cons (e_var (pv 5)) a_nil)) (a_cons e_str a_nil))) (a_cons (e_tup (a_cons (e_sl (e_var (pv 5)) p_none (p_some e_int)) (a_cons e_str a_nil))) a_nil)))))
    (b_cons (s_if (t_fg (t_cmp (o_ne hr.units) (e_lc (scope := SC_law_5) (own := [("thing", 27), ("fault", 28)]) (us := [27, 28]) (l := false) (g := (aGTup 2 (aGCons (aName 27) (aGCons (aName 28) aGNil)))) (tt := (aTest (aOp rNe (aCall sp__law_fault AX0 (aCons (aVar 3) (aCons (aVar 27) aNil))) (aVar 28)))) (by rfl) sc_law.nd (i_seq (e_var (pv 25))) (by exact blkOk_by (N := N_law) (sc := (defScope s_law)) (scope := SC_law_5) (own := [("thing", 27), ("fault", 28)]) (by decide +kernel)) (fun _ _ _ _ _ => (g_tup (by rfl) (gs_cons (g_name (i := 27) sc_law.nd rfl (by first | exact Or.inl rfl | exact Or.inr rfl)) (gs_cons (g_name (i := 28) sc_law.nd rfl (by first | exact Or.inl rfl | exact Or.inr rfl)) gs_nil)))) (fun _ _ _ _ _ => (ts_one (t_cmp (o_ne hr.units) (e_cal c__law_fault hr hG (by rfl) xpass0 (a_cons (e_var (pv 3)) (a_cons (e_var (pv 27)) a_nil))) (e_var (pv 28)) (by first | exact nomark _ | rfl)))) (fun _ _ _ _ _ => (e_var (pv 27))) (by decide)) (e_lst a_nil) (by first | exact nomark _ | rfl))) (b_one (s_ret e_bl)) b_nil)
    (b_cons (s_if (PW.pt (w_or (t_not (t_val (e_refused (k := 7) (te := fun EA => (aCall (sp_applied C_Nothing) EA (aCons (aVar 3) (aCons (aVar 5) (aCons (aC (.str "k")) (aCons (aTup (aCons (aC (.int 0)) (aCons (aC (.int 0)) aNil))) aNil)))))) (scope := SC_law_6) (by rfl) m__law_refused k__law_refused lk__law_refused hc__law_refused b__law_refused sc__law_refused rfl (.inl rfl) (refused_gives (by rfl) g_Nothing (by decide) (fun _ => rfl)) xr_Nothing TB (by exact hcv) (hr.mono (by decide)) (by exact LamX.lamS_by (sc := (defScope s_law)) (scope := SC_law_6) (by decide +kernel)) rfl (fun _ _ _ _ _ => rfl) (fun A2 o2 s2 H2 E2 f2 c2 hr => (e_cal cL_applied hr False.elim (by rfl) lam_xpass (a_cons (e_var (pv 3)) (a_cons (e_var (pv 5)) (a_cons e_str (a_cons (e_tup (a_cons e_int (a_cons e_int a_nil))) a_nil))))))) (by intro _; rfl))) (w_or1 (t_fg (t_cmp (o_ne hr.units) (e_fg (e_cal c__law_fault hr hG (by rfl) xpass0 (a_cons (e_var (pv 3)) (a_cons (e_op o_add (e_tup (a_cons e_int a_nil)) (e_sl (e_var (pv 5)) (p_some e_int) p_none)) a_nil)))) (e_tup (a_cons e_str (a_cons e_int a_nil))) (by first | exact nomark _ | rfl)))))) (b_one (s_ret e_bl)) b_nil)
    (b_cons (s_if (t_not (t_val (e_refused (k := 7) (te := fun EA => (aCall (sp_applied C_Nothing) EA (aCons (aVar 3) (aCons (aVar 5) (aCons (aC (.str "q")) (aCons (aTup (aCons (aC (.int 0)) aNil)) aNil)))))) (scope := SC_law_7) (by rfl) m__law_refused k__law_refused lk__law_refused hc__law_refused b__law_refused sc__law_refused rfl (.inl rfl) (refused_gives (by rfl) g_Nothing (by decide) (fun _ => rfl)) xr_Nothing TB (by exact hcv) (hr.mono (by decide)) (by exact LamX.lamS_by (sc := (defScope s_law)) (scope := SC_law_7) (by decide +kernel)) rfl (fun _ _ _ _ _ => rfl) (fun A2 o2 s2 H2 E2 f2 c2 hr => (e_cal cL_applied hr False.elim (by rfl) lam_xpass (a_cons (e_var (pv 3)) (a_cons (e_var (pv 5)) (a_cons e_str (a_cons (e_tup (a_cons e_int a_nil)) a_nil))))))) (by intro _; rfl))) (b_one (s_ret e_bl)) b_nil)
    (b_one (s_if (t_not (t_val (e_refused (k := 7) (te := fun EA => (aCall (sp_letter_worth C_Nothing) EA (aCons (aVar 3) (aCons (aVar 5) (aCons (aC (.str "q")) aNil))))) (scope := SC_law_8) (by rfl) m__law_refused k__law_refused lk__law_refused hc__law_refused b__law_refused sc__law_refused rfl (.inl rfl) (refused_gives (by rfl) g_Nothing (by decide) (fun _ => rfl)) xr_Nothing TB (by exact hcv) (hr.mono (by decide)) (by exact LamX.lamS_by (sc := (defScope s_law)) (scope := SC_law_8) (by decide +kernel)) rfl (fun _ _ _ _ _ => rfl) (fun A2 o2 s2 H2 E2 f2 c2 hr => (e_cal cL_letter_worth hr False.elim (by rfl) lam_xpass (a_cons (e_var (pv 3)) (a_cons (e_var (pv 5)) (a_cons e_str a_nil)))))) (by intro _; rfl))) (b_one (s_ret e_bl)) b_nil)))))))))))))))))))))))))
    (b_one (s_ret e_bl)))))
end AX

set_option Elab.async false
set_option linter.all false
set_option maxRecDepth 100000
set_option maxHeartbeats 4000000
namespace AX
open PySem PySem.Spec PyProof.Rows L2
theorem noRefs_all : ∀ xs : List D, noRef.noRefs xs = xs.all noRef
  | [] => rfl
  | x :: xs => by rw [noRef.noRefs, noRefs_all xs]; rfl
theorem noRef_tup {xs : List D} (h : noRef (.tup xs) = true) : ∀ x ∈ xs, noRef x = true := by
  rw [noRef, noRefs_all] at h
  exact List.all_eq_true.mp h
theorem tyd_of {h : AH} {d : D} (e : noRef d = true) : Tyd h d := by cases d <;> first | exact ⟨_, rfl⟩ | (simp [noRef] at e)
theorem fgr {R : DK} {d : D} {h : AH} (q : R d h) : fgR R d h := ⟨h, .refl h, q⟩
@[simp] theorem isTy_tt : isTy "tuple" "tuple" = true := by decide
@[simp] theorem isTy_ii : isTy "int" "int" = true := by decide
@[simp] theorem isTy_ib : isTy "int" "bool" = false := by decide
@[simp] theorem isTy_bi : isTy "bool" "int" = true := by decide
@[simp] theorem isTy_bb : isTy "bool" "bool" = true := by decide
@[simp] theorem isTy_it : isTy "int" "tuple" = false := by decide
@[simp] theorem isTy_bt : isTy "bool" "tuple" = false := by decide
@[simp] theorem isTy_st : isTy "str" "tuple" = false := by decide
@[simp] theorem isTy_nt : isTy "NoneType" "tuple" = false := by decide
@[simp] theorem isTy_lt : isTy "list" "tuple" = false := by decide
@[simp] theorem isTy_dt : isTy "dict" "tuple" = false := by decide
@[simp] theorem isTy_si : isTy "str" "int" = false := by decide
@[simp] theorem isTy_ni : isTy "NoneType" "int" = false := by decide
@[simp] theorem isTy_ti : isTy "tuple" "int" = false := by decide
@[simp] theorem isTy_li : isTy "list" "int" = false := by decide
@[simp] theorem isTy_di : isTy "dict" "int" = false := by decide
theorem ref_ty {h : AH} {a : Addr} (e : Tyd h (.ref a)) : tyD h (.ref a) = some "list" ∨ tyD h (.ref a) = some "dict" := by
  obtain ⟨ty, e⟩ := e
  unfold tyD at e ⊢
  simp only at e ⊢
  split at e <;> simp_all
abbrev EN (R : DK) : AEnds := { nx := fun _ h' => fgR R .non h', rt := fgR R }
theorem pure_is_number (ds : List D) (h : AH) (R : DK) (E : AXK) (q : sp_is_number ds h R E) : t_is_number { nx := fun _ h' => fgR R .non h', rt := fgR R } (astart N_is_number ds) h := by
  obtain ⟨d, rfl, ty, q⟩ := q
  cases d with
  | ref a => rcases ref_ty ty with e | e <;> (simp [t_is_number, astart, N_is_number, e]; exact fgr q)
  | _ => simp [t_is_number, astart, N_is_number]; exact fgr q
theorem pure_is_index (ds : List D) (h : AH) (R : DK) (E : AXK) (q : sp_is_index ds h R E) : t_is_index { nx := fun _ h' => fgR R .non h', rt := fgR R } (astart N_is_index ds) h := by
  obtain ⟨d, rfl, ty, q⟩ := q
  simp [t_is_index, astart, N_is_index, sp_is_number, ty]
  cases d <;> simp [isNum] <;> exact fgr q
/-! ### all([f(x) for x in t]) -/
theorem allIx {t0 te : AE} {i : Nat} {vs : List Nat} {σ : ASt} {h : AH} {R : DK} (f : D → Bool) {xs : List D} {x : D} (h0 : ∀ R : DK, R x h → t0 σ h R) (hx : seqOf h x = some xs)
    (step : ∀ d ∈ xs, ∀ h', Sub h h' → ∀ K : DK, K (.bl (f d)) h' → te ((awipe σ vs).set i (some d)) h' K) (q : R (.bl (xs.all f)) h) : aFg (aCB cAll (aCons (aLc (iSeq t0) (aName i) aYes te vs) aNil)) σ h R :=
  lcAll (s := fun h => seqOf h x) f (fun R' hr => h0 _ ⟨xs, hx, hr⟩) (fun h' s => seqOf_sub s hx) (fun d hd h' s K hK => step d hd h' s K (hK h' (.refl h'))) q
theorem tyd_sub {h h' : AH} {d : D} (s : Sub h h') (e : Tyd h d) : Tyd h' d := by
  obtain ⟨ty, e⟩ := e
  cases d with
  | ref a =>
    unfold tyD at e
    simp only at e
    cases q : h a with
    | none => rw [q] at e; cases e
    | some o => exact ⟨ty, by unfold tyD; simp only; rw [s a o q]; rw [q] at e; exact e⟩
  | _ => exact ⟨_, rfl⟩
@[simp] theorem eqv_int {a b : Int} : D.eqv (.int a) (.int b) = decide (a = b) := by rw [eqv_eq _ _ rfl rfl]; simp
@[simp] theorem eqv_str {a b : Str} : D.eqv (.str a) (.str b) = decide (a = b) := by rw [eqv_eq _ _ rfl rfl]; simp
@[simp] theorem rEqB_int {f : Bool → Bool} {a b : Int} {h : AH} {R : DK} : rEqB f (.int a) (.int b) h R = R (.bl (f (decide (a = b)))) h := by
  show ((okd 60 (.int a) = true ∧ okd 60 (.int b) = true ∧ R (.bl (f (D.eqv (.int a) (.int b)))) h)) = _
  simp [okd]
@[simp] theorem rEqB_str {f : Bool → Bool} {a b : Str} {h : AH} {R : DK} : rEqB f (.str a) (.str b) h R = (PyData.strOk a = true ∧ PyData.strOk b = true ∧ R (.bl (f (decide (a = b)))) h) := by
  show ((okd 60 (.str a) = true ∧ okd 60 (.str b) = true ∧ R (.bl (f (D.eqv (.str a) (.str b)))) h)) = _
  simp [okd]
theorem rEqB_plain {f : Bool → Bool} {x y : D} {h : AH} {R : DK} (hx : okd 60 x = true) (hy : okd 60 y = true) (nx : nobl x = true) (ny : nobl y = true) (q : R (.bl (f (decide (x = y)))) h) : rEqB f x y h R := by
  have e := eqv_eq x y nx ny
  have key : (okd 60 x = true ∧ okd 60 y = true ∧ R (.bl (f (D.eqv x y))) h) := ⟨hx, hy, by rw [e]; exact q⟩
  cases x with
  | ref a => simp [nobl] at nx
  | _ => exact key
@[simp] theorem rLt_int {a b : Int} {h : AH} {R : DK} : rLt (.int a) (.int b) h R = R (.bl (decide (a < b))) h := rfl
theorem rowForm_len {xs : List D} (e : xs.length ≠ 2) : rowForm (.tup xs) = false := by
  unfold rowForm
  split
  · rename_i h; cases h; simp at e
  · rfl
theorem fnForm_len {xs : List D} (e : xs.length ≠ 2) : fnForm (.tup xs) = false := by
  unfold fnForm
  split
  · rename_i h; cases h; simp at e
  · rfl
theorem pure_is_row_form (ds : List D) (h : AH) (R : DK) (E : AXK) (q : sp_is_row_form ds h R E) : t_is_row_form { nx := fun _ h' => fgR R .non h', rt := fgR R } (astart N_is_row_form ds) h := by
  obtain ⟨d, rfl, nr, q⟩ := q
  cases d with
  | tup xs =>
    by_cases hl : xs.length = 2
    · match xs, hl, nr, q with
      | [a, b], _, nr, q =>
        have na := noRef_tup nr a (by simp)
        have tb : Tyd h b := tyd_of (noRef_tup nr b (by simp))
        have ta := tyd_of (h := h) na
        cases a with
        | tup ys =>
          cases hb : isIdx b with
          | false =>
            simp [t_is_row_form, astart, N_is_row_form, sp_is_index, tb, hb]
            refine fgr ?_; simpa [rowForm, hb] using q
          | true =>
            simp [t_is_row_form, astart, N_is_row_form, sp_is_index, tb, hb]
            refine allIx isIdx (x := .tup ys) (fun R r => by simpa using r) rfl (fun d hd h' s K hK => ?_) (fgr ?_)
            · simp [awipe, sp_is_index]
              exact ⟨tyd_of (noRef_tup na d hd), hK⟩
            · simpa [rowForm, hb] using q
        | ref a => simp [noRef] at na
        | _ => simp [t_is_row_form, astart, N_is_row_form]; exact fgr q
    · have hl' : ((xs.length : Int) = 2) = False := by simp; omega
      simp [t_is_row_form, astart, N_is_row_form, hl']
      refine fgr ?_; rwa [rowForm_len hl] at q
  | ref a => simp [noRef] at nr
  | _ => simp [t_is_row_form, astart, N_is_row_form]; exact fgr q
theorem pure_is_function_form (ds : List D) (h : AH) (R : DK) (E : AXK) (q : sp_is_function_form ds h R E) : t_is_function_form { nx := fun _ h' => fgR R .non h', rt := fgR R } (astart N_is_function_form ds) h := by
  obtain ⟨d, rfl, nr, q⟩ := q
  cases d with
  | tup xs =>
    by_cases hl : xs.length = 2
    · match xs, hl, nr, q with
      | [a, b], _, nr, q =>
        have na := noRef_tup nr a (by simp)
        have tb : Tyd h b := tyd_of (noRef_tup nr b (by simp))
        have ta := tyd_of (h := h) na
        cases a with
        | tup ys =>
          cases hb : isIdx b with
          | false =>
            simp [t_is_function_form, astart, N_is_function_form, sp_is_index, tb, hb]
            refine fgr ?_; simpa [fnForm, hb] using q
          | true =>
            simp [t_is_function_form, astart, N_is_function_form, sp_is_index, tb, hb]
            refine allIx rowForm (x := .tup ys) (fun R r => by simpa using r) rfl (fun d hd h' s K hK => ?_) (fgr ?_)
            · simp [awipe, sp_is_row_form]
              exact ⟨noRef_tup na d hd, hK⟩
            · simpa [fnForm, hb] using q
        | ref a => simp [noRef] at na
        | _ => simp [t_is_function_form, astart, N_is_function_form]; exact fgr q
    · have hl' : ((xs.length : Int) = 2) = False := by simp; omega
      simp [t_is_function_form, astart, N_is_function_form, hl']
      refine fgr ?_; rwa [fnForm_len hl] at q
  | ref a => simp [noRef] at nr
  | _ => simp [t_is_function_form, astart, N_is_function_form]; exact fgr q
theorem pure_are_indexes (ds : List D) (h : AH) (R : DK) (E : AXK) (q : sp_are_indexes ds h R E) : t_are_indexes { nx := fun _ h' => fgR R .non h', rt := fgR R } (astart N_are_indexes ds) h := by
  obtain ⟨d, rfl, nr, q⟩ := q
  cases d with
  | tup xs =>
    rcases nr with nr | ⟨_, a, e⟩
    · simp [t_are_indexes, astart, N_are_indexes]
      refine allIx isIdx (x := .tup xs) (fun R r => by simpa using r) rfl (fun d hd h' s K hK => ?_) (fgr q)
      simp [awipe, sp_is_index]
      exact ⟨tyd_of (noRef_tup nr d hd), hK⟩
    · cases e
  | ref a =>
    rcases nr with nr | ⟨ty, _⟩
    · simp [noRef] at nr
    · rcases ref_ty ty with e | e <;> (simp [t_are_indexes, astart, N_are_indexes, e]; exact fgr q)
  | _ => simp [t_are_indexes, astart, N_are_indexes]; exact fgr q
theorem pure_are_below (ds : List D) (h : AH) (R : DK) (E : AXK) (q : sp_are_below ds h R E) : t_are_below { nx := fun _ h' => fgR R .non h', rt := fgR R } (astart N_are_below ds) h := by
  obtain ⟨ns, m, rfl, q⟩ := q
  simp [t_are_below, astart, N_are_below]
  refine allIx (fun d => match d with | .int n => decide (n < m) | _ => false) (x := eI ns) (xs := ns.map D.int) (fun R r => by simpa using r) rfl (fun d hd h' s K hK => ?_) (fgr ?_)
  · obtain ⟨n, _, rfl⟩ := List.mem_map.mp hd
    simp [awipe]; exact hK
  · simpa [List.all_map, Function.comp_def] using q

/-! ### world_form -/
theorem worldForm_len {xs : List D} (e : xs.length ≠ 5) : worldForm (.tup xs) = false := by
  unfold worldForm
  split
  · rename_i h; cases h; simp at e
  · rfl
theorem pure_is_world_form (ds : List D) (h : AH) (R : DK) (E : AXK) (q : sp_is_world_form ds h R E) : t_is_world_form { nx := fun _ h' => fgR R .non h', rt := fgR R } (astart N_is_world_form ds) h := by
  obtain ⟨d, rfl, nr, q⟩ := q
  cases d with
  | tup xs =>
    replace nr : noRef (.tup xs) = true := by
      rcases nr with nr | ⟨_, a, e⟩
      · exact nr
      · cases e
    by_cases hl : xs.length = 5
    · match xs, hl, nr, q with
      | [a, b, c, d, e], _, nr, q =>
        have na := noRef_tup nr a (by simp)
        have nb := noRef_tup nr b (by simp)
        have nc := noRef_tup nr c (by simp)
        have nd := noRef_tup nr d (by simp)
        have ne := noRef_tup nr e (by simp)
        have ta : Tyd h a := tyd_of na
        cases ha : isNum a with
        | false =>
          simp [t_is_world_form, astart, N_is_world_form, sp_is_number, ta, ha]
          refine fgr ?_
          have : worldForm (.tup [a, b, c, d, e]) = false := by unfold worldForm; split <;> simp_all
          rwa [this] at q
        | true =>
          have cut : cutD [a, b, c, d, e] (some 1) (some 4) = [b, c, d] := rfl
          simp [t_is_world_form, astart, N_is_world_form, sp_is_number, ta, ha]
          refine allIx idxs (x := .tup [b, c, d]) (xs := [b, c, d]) (fun R r => by simp [rSl, cut]; exact r) rfl (fun x hx h' s K hK => ?_) ?_
          · simp [awipe, sp_are_indexes]
            refine ⟨.inl ?_, hK⟩
            simp at hx
            rcases hx with rfl | rfl | rfl <;> assumption
          · cases hb : [b, c, d].all idxs with
            | false =>
              simp
              refine fgr ?_
              have : worldForm (.tup [a, b, c, d, e]) = false := by
                unfold worldForm
                split
                · rename_i h; cases h
                  simp at hb
                  simp [ha]
                  intro h1 h2 h3
                  simp [hb h1 h2] at h3
                · rfl
              rwa [this] at q
            | true =>
              simp
              have hb' : idxs b = true ∧ idxs c = true ∧ idxs d = true := by simpa using hb
              cases e with
              | tup es =>
                simp
                refine allIx fnForm (x := .tup es) (fun R r => by simpa using r) rfl (fun x hx h' s K hK => ?_) (fgr ?_)
                · simp [awipe, sp_is_function_form]
                  exact ⟨noRef_tup ne x hx, hK⟩
                · simpa [worldForm, ha, hb'.1, hb'.2.1, hb'.2.2] using q
              | ref a => simp [noRef] at ne
              | _ => simp; exact fgr q
    · have hl' : ((xs.length : Int) = 5) = False := by simp; omega
      simp [t_is_world_form, astart, N_is_world_form, hl']
      refine fgr ?_; rwa [worldForm_len hl] at q
  | ref a =>
    rcases nr with nr | ⟨ty, _⟩
    · simp [noRef] at nr
    · rcases ref_ty ty with e | e <;> (simp [t_is_world_form, astart, N_is_world_form, e]; exact fgr q)
  | _ => simp [t_is_world_form, astart, N_is_world_form]; exact fgr q

@[simp] theorem strOk_either : PyData.strOk (Str.ofString "either") = true := by decide +kernel
@[simp] theorem strOk_told : PyData.strOk (Str.ofString "told") = true := by decide +kernel
theorem map_int_inj {a b : List Int} (h : a.map D.int = b.map D.int) : a = b := by
  have : ∀ (a b : List Int), a.map D.int = b.map D.int → a = b := by
    intro a
    induction a with
    | nil => intro b h; cases b <;> simp_all
    | cons x a ih =>
      intro b h
      cases b with
      | nil => simp at h
      | cons y b =>
        simp only [List.map_cons, List.cons.injEq, D.int.injEq] at h
        rw [h.1, ih b h.2]
  exact this a b h
theorem pure_is_right_row (ds : List D) (h : AH) (R : DK) (E : AXK) (q : sp_is_right_row ds h R E) : t_is_right_row { nx := fun _ h' => fgR R .non h', rt := fgR R } (astart N_is_right_row ds) h := by
  obtain ⟨f, m, r, rfl, ok, q⟩ := q
  obtain ⟨ns, w⟩ := r
  simp [t_is_right_row, astart, N_is_right_row, eRow, eFn, eI, sp_are_below, ok.2.1]
  by_cases h1 : (ns.length : Int) = f.p
  · rw [if_pos h1]
    refine ⟨ns, m, ⟨rfl, rfl⟩, ?_⟩
    by_cases h2 : ∀ x, x ∈ ns → x < m
    · rw [if_pos h2]
      by_cases h3 : m ≤ w
      · rw [if_pos h3]
        refine fgr ?_; simpa [rightRow, h3] using q
      · rw [if_neg h3]
        by_cases h4 : f.how = Str.ofString "either"
        · rw [if_pos h4]
          have hp := ok.1 h4
          rw [hp] at h1
          match ns, h1 with
          | [a, b], _ =>
            simp
            have h2' : a < m ∧ b < m := by simpa using h2
            refine fgr ?_
            simpa [rightRow, hp, h2', h3, h4] using q
          | [], h1 => simp at h1
          | [_], h1 => simp at h1
          | _ :: _ :: _ :: _, h1 => simp at h1; omega
        · rw [if_neg h4]
          refine fgr ?_
          have e : rightRow f m (ns, w) = true := by
            unfold rightRow
            rw [if_neg (by simp [h1, h3]; exact h2)]
            simp [h4]
          rwa [e] at q
    · rw [if_neg h2]
      refine fgr ?_
      have e : rightRow f m (ns, w) = false := by
        unfold rightRow
        rw [if_pos (.inr (.inl (by simpa using h2)))]
      rwa [e] at q
  · rw [if_neg h1]
    refine fgr ?_
    have e : rightRow f m (ns, w) = false := by
      unfold rightRow
      rw [if_pos (.inl h1)]
    rwa [e] at q
/-! ### all over pairs -/
theorem allZip {t0 : AA} {te : AE} {i j : Nat} {vs : List Nat} {σ : ASt} {h : AH} {R : DK} (f : D → D → Bool) {xs ys : List D} {x y : D} (h0 : ∀ R : List D → AH → Prop, R [x, y] h → t0 σ h R) (hk : sameKind x y = true) (hx : seqOf h x = some xs) (hy : seqOf h y = some ys)
    (step : ∀ a b, (a, b) ∈ xs.zip ys → ∀ h', Sub h h' → ∀ K : DK, K (.bl (f a b)) h' → te (((awipe σ vs).set i (some a)).set j (some b)) h' K) (q : R (.bl ((xs.zip ys).all fun p => f p.1 p.2)) h) :
    aFg (aCB cAll (aCons (aLc (iZip2 t0) (aGTup 2 (aGCons (aName i) (aGCons (aName j) aGNil))) aYes te vs) aNil)) σ h R := by
  have hz : zipD xs ys = (xs.zip ys).map fun p => .tup [p.1, p.2] := by
    unfold zipD
    rw [List.zip_eq_zipWith, List.map_zipWith]
  refine lcAll (s := zipOf x y) (xs := zipD xs ys) (fun d => match d with | .tup [a, b] => f a b | _ => false) (fun R' hr => h0 _ ⟨hk, xs, ys, hx, hy, fun hl => hr ?_⟩) (fun h' s => ?_) (fun d hd h' s K hK => ?_) ?_
  · have : (zipD xs ys).length ≤ xs.length := by simp [zipD]; omega
    omega
  · unfold zipOf; rw [seqOf_sub s hx, seqOf_sub s hy]
  · rw [hz] at hd
    obtain ⟨⟨a, b⟩, hm, rfl⟩ := List.mem_map.mp hd
    simp
    exact step a b hm h' s K (hK h' (.refl h'))
  · rw [hz, List.all_map]; exact q
def dI : D → List Int
  | .tup xs => xs.filterMap fun d => match d with | .int i => some i | _ => none
  | _ => []
@[simp] theorem dI_eI (ns : List Int) : dI (eI ns) = ns := by
  unfold dI eI
  simp only [List.filterMap_map]
  induction ns with
  | nil => rfl
  | cons a r ih => simp [ih, Function.comp_def]
def dRow : D → Row
  | .tup [a, .int w] => (dI a, w)
  | _ => ([], 0)
@[simp] theorem dRow_eRow (r : Row) : dRow (eRow r) = r := by simp [dRow, eRow]
def dTab : D → Tab
  | .tup [.tup a, .int w] => (a.map dRow, w)
  | _ => ([], 0)
@[simp] theorem dTab_eTab (r : Tab) : dTab (eTab r) = r := by simp [dTab, eTab, Function.comp_def]
def dFn : D → Fnc
  | .tup [.str a, .int p, .str w] => ⟨a, p.toNat, w⟩
  | _ => ⟨"", 0, ""⟩
@[simp] theorem dFn_eFn (r : Fnc) : dFn (eFn r) = r := by simp [dFn, eFn]
theorem cut_1 (xs : List D) : cutD xs (some 1) none = xs.drop 1 := by
  unfold cutD
  rw [show HT.sIx xs.length 0 (some 1) = min 1 xs.length from HT.sIx_nat xs.length 0 1, HT.sIx_none]
  cases xs with
  | nil => rfl
  | cons x r =>
    rw [show min 1 (x :: r).length = 1 by rw [List.length_cons]; omega]
    simp
theorem rLt_tup {a b : List Int} {h : AH} {R : DK} : rLt (eI a) (eI b) h R = R (.bl (HT.lexLt a b)) h := by
  show (match ints? (a.map D.int), ints? (b.map D.int) with | some ns, some ms => R (.bl (HT.lexLt ns ms)) h | _, _ => False) = _
  rw [ints?_map, ints?_map]
theorem rising_eq : ∀ rows : List Row, ((rows.map eRow).zip ((rows.map eRow).drop 1)).all (fun p => HT.lexLt (dRow p.1).1 (dRow p.2).1) = rising rows
  | [] => rfl
  | [_] => rfl
  | a :: b :: r => by
    have ih := rising_eq (b :: r)
    simp only [List.map_cons, List.drop_succ_cons, List.drop_zero, List.zip_cons_cons, List.all_cons, dRow_eRow] at ih ⊢
    rw [rising, ← ih]
theorem mem_zip_drop {α : Type} {l : List α} {a b : α} (h : (a, b) ∈ l.zip (l.drop 1)) : a ∈ l ∧ b ∈ l := by
  obtain ⟨h1, h2⟩ := List.of_mem_zip h
  exact ⟨h1, List.mem_of_mem_drop h2⟩
theorem pure_is_right_function (ds : List D) (h : AH) (R : DK) (E : AXK) (q : sp_is_right_function ds h R E) : t_is_right_function { nx := fun _ h' => fgR R .non h', rt := fgR R } (astart N_is_right_function ds) h := by
  obtain ⟨f, m, t, rfl, ok, q⟩ := q
  obtain ⟨rows, rest⟩ := t
  simp [t_is_right_function, astart, N_is_right_function, eTab]
  by_cases h1 : m ≤ rest
  · rw [if_pos h1]
    refine fgr ?_
    have e : rightFn f m (rows, rest) = false := by unfold rightFn; rw [if_pos (.inl h1)]
    rwa [e] at q
  · rw [if_neg h1]
    refine allIx (fun d => rightRow f m (dRow d)) (x := .tup (rows.map eRow)) (fun R r => by simpa using r) rfl (fun d hd h' s K hK => ?_) ?_
    · obtain ⟨r, _, rfl⟩ := List.mem_map.mp hd
      simp [awipe, sp_is_right_row]
      exact ⟨f, m, r.1, r.2, ⟨rfl, rfl, rfl⟩, ok, by simpa using hK⟩
    · have e0 : ((rows.map eRow).all fun d => rightRow f m (dRow d)) = rows.all (rightRow f m) := by rw [List.all_map]; simp [Function.comp_def]
      rw [e0]
      simp only
      by_cases h2 : rows.all (rightRow f m) = true
      · rw [if_pos h2]
        refine allZip (fun a b => HT.lexLt (dRow a).1 (dRow b).1) (x := .tup (rows.map eRow)) (y := .tup ((rows.map eRow).drop 1)) (xs := rows.map eRow) (ys := (rows.map eRow).drop 1) (fun R r => by simpa [rSl, cut_1] using r) rfl rfl rfl (fun a b hm h' s K hK => ?_) (fgr ?_)
        · obtain ⟨ha, hb⟩ := mem_zip_drop hm
          obtain ⟨r1, _, rfl⟩ := List.mem_map.mp ha
          obtain ⟨r2, _, rfl⟩ := List.mem_map.mp hb
          simp [awipe, eRow, rLt_tup]
          simpa using hK
        · rw [rising_eq]
          have e : rightFn f m (rows, rest) = rising rows := by unfold rightFn; rw [if_neg (by simp [h1, h2])]
          rwa [e] at q
      · rw [if_neg h2]
        refine fgr ?_
        have e : rightFn f m (rows, rest) = false := by unfold rightFn; rw [if_pos (.inr h2)]
        rwa [e] at q
theorem pure_are_right_functions (ds : List D) (h : AH) (R : DK) (E : AXK) (q : sp_are_right_functions ds h R E) : t_are_right_functions { nx := fun _ h' => fgR R .non h', rt := fgR R } (astart N_are_right_functions ds) h := by
  obtain ⟨P, m, ts, rfl, ok, q⟩ := q
  simp [t_are_right_functions, astart, N_are_right_functions, eP]
  by_cases h1 : (ts.length : Int) = P.fs.length
  · rw [if_pos h1]
    refine allZip (fun a b => rightFn (dFn a) m (dTab b)) (x := .tup (P.fs.map eFn)) (y := .tup (ts.map eTab)) (fun R r => by simpa using r) rfl rfl rfl (fun a b hm h' s K hK => ?_) (fgr ?_)
    · obtain ⟨ha, hb⟩ := List.of_mem_zip hm
      obtain ⟨f, hf, rfl⟩ := List.mem_map.mp ha
      obtain ⟨t, _, rfl⟩ := List.mem_map.mp hb
      simp [awipe, sp_is_right_function]
      exact ⟨f, m, t.1, t.2, ⟨rfl, rfl, rfl⟩, ok f hf, by simpa using hK⟩
    · have e : rightFns P.fs m ts = ((P.fs.map eFn).zip (ts.map eTab)).all fun p => rightFn (dFn p.1) m (dTab p.2) := by
        unfold rightFns
        rw [if_neg (by omega), List.zip_map, List.all_map]
        simp [Function.comp_def]
      rwa [e] at q
  · rw [if_neg h1]
    refine fgr ?_
    have e : rightFns P.fs m ts = false := by unfold rightFns; rw [if_pos (by omega)]
    rwa [e] at q
theorem awipe_length (σ : ASt) : ∀ vs : List Nat, (awipe σ vs).length = σ.length
  | [] => rfl
  | v :: vs => by unfold awipe; rw [List.length_set, awipe_length σ vs]
theorem putKD_new {kvs : List (Key × D)} {k : Key} {v : D} (h : k ∉ kvs.map (·.1)) : putKD kvs k v = kvs ++ [(k, v)] := by
  unfold putKD
  rw [if_neg]
  intro z
  rw [List.any_eq_true] at z
  obtain ⟨x, hx, e⟩ := z
  exact h (List.mem_map.mpr ⟨x, hx, by simpa using e⟩)
theorem dcLen {ns : List Int} (nd : ns.Nodup) {i : Nat} {vs : List Nat} {σ : ASt} {h : AH} {t0 : AE} {R : DK} (hi : i < σ.length) (h0 : ∀ R : DK, R (eI ns) h → t0 σ h R) (q : R (.int ns.length) h) :
    aFg (aCB cLen (aCons (aDc (iSeq t0) (aName i) aYes (aVar i) (aC (.bl true)) vs) aNil)) σ h R := by
  show aDc (iSeq t0) (aName i) aYes (aVar i) (aC (.bl true)) vs σ h (fun d h1 => cLen [d] h1 (fun r h2 => ∃ h0, Sub h0 h2 ∧ R r h0))
  refine h0 _ ⟨ns.map D.int, rfl, fun hz => ⟨ns.map D.int, rfl, fun p hp => ⟨fun k h' => h' = aup h p (.dK ((ns.take k).map fun n => (Sum.inl n, D.bl true))), by simp, fun k h' e => ⟨rfl, ?_⟩⟩⟩⟩
  subst e
  rw [List.length_map] at hz
  rw [List.getElem?_map]
  cases hk : ns[k]? with
  | none =>
    have e : ns.take k = ns := List.take_of_length_le (List.getElem?_eq_none_iff.mp hk)
    simp only [Option.map_none, e]
    unfold cLen
    simp only [aup_same]
    exact ⟨h, .new hp, by simpa using q⟩
  | some n =>
    have hlt := (List.getElem?_eq_some_iff.mp hk).1
    simp only [Option.map_some]
    unfold dcBody
    have hset : ((awipe σ vs).set i (some (D.int n)))[i]? = some (some (D.int n)) := List.getElem?_set_self (by rw [awipe_length]; exact hi)
    simp only [aName_def, aYes_def, if_true, aVar_def, hset, aC_def]
    refine ⟨_, .inl n, _, rfl, aup_same, ?_, .refl _, ?_⟩
    · simp; omega
    · rw [aup_aup, putKD_new, List.take_add_one, hk]
      · simp
      · simp only [List.map_map, List.mem_map, Function.comp_def, not_exists, not_and, Sum.inl.injEq]
        rintro x hx rfl
        obtain ⟨j, hj⟩ := List.getElem?_of_mem hx
        rw [List.getElem?_take] at hj
        split at hj
        · rename_i hjk
          have hjl := (List.getElem?_eq_some_iff.mp hj).1
          have e1 : ns[j] = x := (List.getElem?_eq_some_iff.mp hj).2
          have e2 : ns[k] = x := (List.getElem?_eq_some_iff.mp hk).2
          exact absurd ((List.getElem_inj nd).mp (e1.trans e2.symm)) (Nat.ne_of_lt hjk)
        · cases hj
@[simp] theorem cLenI {ns : List Int} {h : AH} {R : DK} : cLen [eI ns] h R = R (.int ns.length) h := by simp [eI]
@[simp] theorem cLenS {ns : List Str} {h : AH} {R : DK} : cLen [eS ns] h R = R (.int ns.length) h := by simp [eS]
theorem pure_world_fault (ds : List D) (h : AH) (R : DK) (E : AXK) (q : sp_world_fault ds h R E) : t_world_fault { nx := fun _ h' => fgR R .non h', rt := fgR R } (astart N_world_fault ds) h := by
  obtain ⟨P, w, rfl, ok, nd, q⟩ := q
  simp [t_world_fault, astart, N_world_fault, eP, eW]
  have below : ∀ (ns : List Int) (m : Int) (R : DK) (h : AH), R (.bl (ns.all fun n => decide (n < m))) h → sp_are_below [eI ns, .int m] h R AX0 := fun ns m R h q => ⟨ns, m, rfl, q⟩
  unfold worldFault at q
  by_cases h1 : w.many < 1
  · rw [if_pos h1] at q ⊢
    exact fgr q
  · rw [if_neg h1] at q ⊢
    by_cases h2 : (w.letters.length : Int) = P.letters.length
    · rw [if_pos h2]
      have hn := nd (by omega)
      refine dcLen hn (by simp) (fun R r => by simpa using r) ?_
      simp
      refine ⟨h, .refl h, below _ _ _ _ ?_⟩
      simp only
      by_cases h3 : (w.letters.all fun n => decide (n < w.many)) = true
      · rw [if_pos h3]
        rw [if_neg (by simp only [h3, hn, not_true, not_false_eq_true, and_true, or_false]; omega)] at q
        by_cases h4 : (w.inputs.length : Int) = P.inputs.length
        · rw [if_pos h4]
          refine below _ _ _ _ ?_
          simp only
          by_cases h5 : (w.inputs.all fun n => decide (n < w.many)) = true
          · rw [if_pos h5]
            rw [if_neg (by simp only [h5, not_true, or_false]; omega)] at q
            refine below _ _ _ _ ?_
            simp only
            by_cases h6 : (w.anys.all fun n => decide (n < w.many)) = true
            · rw [if_pos h6]
              rw [if_neg (by simp only [h6, not_true, not_false_eq_true])] at q
              refine ⟨P, w.many, w.tabs, rfl, ok, ?_⟩
              simp only
              by_cases h7 : rightFns P.fs w.many w.tabs = true
              · rw [if_pos h7] at q ⊢; exact fgr q
              · rw [if_neg h7] at q ⊢; exact fgr q
            · rw [if_neg h6]
              rw [if_pos h6] at q
              exact fgr q
          · rw [if_neg h5]
            rw [if_pos (.inr h5)] at q
            exact fgr q
        · rw [if_neg h4]
          rw [if_pos (.inl (by omega))] at q
          exact fgr q
      · rw [if_neg h3]
        rw [if_pos (.inr h3)] at q
        exact fgr q
    · rw [if_neg h2]
      rw [if_pos (.inl (by omega))] at q
      exact fgr q
end AX

set_option Elab.async false
set_option linter.all false
set_option maxRecDepth 100000
set_option maxHeartbeats 4000000
namespace AX
open PySem PySem.Spec PyProof.Rows L2
theorem tyd_ref {h : AH} {d : D} (q : noRef d = true ∨ (Tyd h d ∧ ∃ a, d = .ref a)) : Tyd h d := by
  rcases q with q | ⟨q, _⟩
  · exact tyd_of q
  · exact q
theorem isIdx_int {d : D} (h : isIdx d = true) : ∃ i, d = .int i ∧ 0 ≤ i := by
  cases d with
  | int i => exact ⟨i, rfl, by simpa [isIdx] using h⟩
  | _ => simp [isIdx] at h
theorem all_idx : ∀ {xs : List D}, xs.all isIdx = true → ∃ ns : List Int, xs = ns.map D.int
  | [], _ => ⟨[], rfl⟩
  | x :: xs, h => by
    rw [List.all_cons, Bool.and_eq_true] at h
    obtain ⟨i, rfl, _⟩ := isIdx_int h.1
    obtain ⟨ns, rfl⟩ := all_idx h.2
    exact ⟨i :: ns, rfl⟩
theorem idxs_eI {d : D} (h : idxs d = true) : ∃ ns, d = eI ns := by
  cases d with
  | tup xs => obtain ⟨ns, rfl⟩ := all_idx h; exact ⟨ns, rfl⟩
  | _ => simp [idxs] at h
theorem rowForm_eRow {d : D} (h : rowForm d = true) : ∃ r, d = eRow r := by
  unfold rowForm at h
  split at h
  · rw [Bool.and_eq_true] at h
    obtain ⟨i, rfl, _⟩ := isIdx_int h.1
    obtain ⟨ns, rfl⟩ := all_idx h.2
    exact ⟨(ns, i), rfl⟩
  · cases h
theorem all_rows : ∀ {xs : List D}, xs.all rowForm = true → ∃ ns : List Row, xs = ns.map eRow
  | [], _ => ⟨[], rfl⟩
  | x :: xs, h => by
    rw [List.all_cons, Bool.and_eq_true] at h
    obtain ⟨i, rfl⟩ := rowForm_eRow h.1
    obtain ⟨ns, rfl⟩ := all_rows h.2
    exact ⟨i :: ns, rfl⟩
theorem fnForm_eTab {d : D} (h : fnForm d = true) : ∃ r, d = eTab r := by
  unfold fnForm at h
  split at h
  · rw [Bool.and_eq_true] at h
    obtain ⟨i, rfl, _⟩ := isIdx_int h.1
    obtain ⟨ns, rfl⟩ := all_rows h.2
    exact ⟨(ns, i), rfl⟩
  · cases h
theorem all_tabs : ∀ {xs : List D}, xs.all fnForm = true → ∃ ns : List Tab, xs = ns.map eTab
  | [], _ => ⟨[], rfl⟩
  | x :: xs, h => by
    rw [List.all_cons, Bool.and_eq_true] at h
    obtain ⟨i, rfl⟩ := fnForm_eTab h.1
    obtain ⟨ns, rfl⟩ := all_tabs h.2
    exact ⟨i :: ns, rfl⟩
theorem worldForm_eW {d : D} (h : worldForm d = true) : ∃ w, d = eW w := by
  unfold worldForm at h
  split at h
  · rename_i a b c d e
    simp only [Bool.and_eq_true] at h
    obtain ⟨h1, h2, h3, h4, h5⟩ := h
    obtain ⟨ls, rfl⟩ := idxs_eI h2
    obtain ⟨is, rfl⟩ := idxs_eI h3
    obtain ⟨as, rfl⟩ := idxs_eI h4
    obtain ⟨ts, rfl⟩ := all_tabs h5
    cases a with
    | int m => exact ⟨⟨m, ls, is, as, ts⟩, rfl⟩
    | _ => simp [isNum] at h1
  · cases h
theorem pure_checked_world (CB CT : Addr) (ds : List D) (h : AH) (R : DK) (E : AXK) (q : sp_checked_world CB CT ds h R E) : t_checked_world E CB CT { nx := fun _ h' => fgR R .non h', rt := fgR R } (astart N_checked_world ds) h := by
  obtain ⟨P, d, rfl, ok, nr, q1, q2⟩ := q
  simp [t_checked_world, astart, N_checked_world, sp_is_world_form]
  refine ⟨nr, ?_⟩
  cases hf : worldForm d with
  | false =>
    simp [aRaiseI]
    exact q1 hf
  | true =>
    obtain ⟨w, rfl⟩ := worldForm_eW hf
    obtain ⟨nd, q2, q3⟩ := q2 w rfl hf
    simp [eW, rI2]
    by_cases hm : 2100 < w.many
    · rw [if_pos hm]
      simp [aRaiseI]
      exact q2 hm
    · rw [if_neg hm]
      obtain ⟨q3, q4⟩ := q3 (by omega)
      refine ⟨P, w, rfl, ok, nd, ?_⟩
      cases hw : worldFault P w with
      | none =>
        simp [rIsN, eO]
        exact fgr (q4 hw)
      | some x =>
        simp [rIsN, eO, aRaiseI]
        exact q3 x hw
end AX

set_option Elab.async false
set_option linter.all false
set_option maxRecDepth 100000
set_option maxHeartbeats 4000000
namespace AX
open PySem PySem.Spec PyProof.Rows L2
theorem atI_at {α : Type} {xs : List α} {i : Nat} {x : α} (e : xs[i]? = some x) : atI xs (i : Int) = some x := atI_nat e
theorem pure_function_at (CN : Addr) (ds : List D) (h : AH) (R : DK) (E : AXK) (q : sp_function_at CN ds h R E) : t_function_at E CN { nx := fun _ h' => fgR R .non h', rt := fgR R } (astart N_function_at ds) h := by
  obtain ⟨P, x, rfl, ok, okx, q1, q2⟩ := q
  simp [t_function_at, astart, N_function_at, aRaise, aFor, iEn]
  refine ⟨P.fs.map eFn, by simp [eP, seqOf], fun hz => ⟨enD (P.fs.map eFn), by simp [eP, seqOf], fun i σ h' => h' = h ∧ (∃ a b, σ = [some (eP P), some (.str x), a, b]) ∧ ∀ j : Nat, j < i → ∀ f, P.fs[j]? = some f → f.f ≠ x, ⟨rfl, ⟨_, _, rfl⟩, fun j hj => absurd hj (Nat.not_lt_zero _)⟩, fun i σ h' W => ?_⟩⟩
  obtain ⟨rfl, ⟨a, b, rfl⟩, W⟩ := W
  refine ⟨by simp [eP, seqOf], ?_⟩
  rw [enD_get, List.getElem?_map]
  cases hf : P.fs[i]? with
  | none =>
    simp
    refine q2 ?_
    rw [List.findIdx?_eq_none_iff]
    intro f hm
    obtain ⟨j, hj⟩ := List.getElem?_of_mem hm
    have hji : j < i := by
      have := (List.getElem?_eq_some_iff.mp hj).1
      have := List.getElem?_eq_none_iff.mp hf
      omega
    simpa using W j hji f hj
  | some f =>
    have hi := (List.getElem?_eq_some_iff.mp hf).1
    simp [eFn]
    refine ⟨(ok f (List.mem_of_getElem? hf)).2.2, okx, ?_⟩
    by_cases hx : f.f = x
    · rw [if_pos hx]
      refine fgr (q1 i ?_)
      rw [List.findIdx?_eq_some_iff_getElem]
      refine ⟨hi, ?_, fun j hj => ?_⟩
      · have := (List.getElem?_eq_some_iff.mp hf).2
        simp [this, hx]
      · have := W j hj _ (List.getElem?_eq_getElem (by omega))
        simpa using this
    · rw [if_neg hx]
      refine Fgt.of ⟨rfl, ⟨_, _, rfl⟩, fun j hj g hg => ?_⟩
      rcases Nat.lt_succ_iff_lt_or_eq.mp hj with h | rfl
      · exact W j h g hg
      · rw [hf] at hg; cases hg; exact hx
/-! ### sorting -/
@[simp] theorem toP_int (i : Int) : toP (.int i) = .int i := rfl
theorem toP_eI (ks : List Int) : toP (eI ks) = .tuple (ks.map .int) := by
  unfold eI toP
  rw [toPs_map, List.map_map]; rfl
theorem sortsInts (ns : List Int) : SortsD (ns.map D.int) := by
  refine ⟨by simp [okd], ?_, ?_⟩
  · rw [List.map_map]; exact PySem.W.AllAlike.of fun a b => by simp [PySem.W.alike]
  · rw [List.map_map]; exact PySem.W.Sortable.others fun a => ⟨by simp, fun xs => by simp⟩
theorem okd_eI {n : Nat} (ks : List Int) : okd (n + 1) (eI ks) = true := by
  unfold eI okd
  simp
  intro a _
  cases n <;> rfl
theorem sortsI {ks : List (List Int)} (ne : ∀ k ∈ ks, k ≠ []) : SortsD (ks.map eI) := by
  refine ⟨?_, ?_, ?_⟩
  · rw [List.all_map, List.all_eq_true]; intro k _; exact okd_eI k
  · rw [List.map_map]; exact PySem.W.AllAlike.of fun a b => by
      simp only [Function.comp_def, toP_eI]
      rw [PySem.W.alike]; exact PySem.W.alike_ints a b
  · refine .inl fun d hd => ?_
    rw [List.map_map] at hd
    obtain ⟨k, hk, rfl⟩ := List.mem_map.mp hd
    cases k with
    | nil => exact absurd rfl (ne _ hk)
    | cons a r => exact ⟨_, _, toP_eI _⟩
theorem sortsRows (rs : List Row) : SortsD (rs.map eRow) := by
  have e : ∀ r : Row, toP (eRow r) = .tuple [.tuple (r.1.map .int), .int r.2] := fun r => by
    unfold eRow toP
    rw [toPs_map, List.map_cons, List.map_cons, List.map_nil, toP_eI]; rfl
  refine ⟨?_, ?_, ?_⟩
  · rw [List.all_map, List.all_eq_true]; intro k _
    show okd 60 (eRow k) = true
    unfold eRow okd
    simp [okd_eI, okd]
  · rw [List.map_map]; exact PySem.W.AllAlike.of fun a b => by
      simp only [Function.comp_def, e]
      simp [PySem.W.alike, PySem.W.alikeAll, PySem.W.alike_ints]
  · rw [List.map_map]; exact PySem.W.Sortable.tuples fun a => ⟨_, _, e a⟩
theorem srt_perm (xs : List D) : (srt xs).Perm xs := List.mergeSort_perm _ _
theorem perm_map_int {ns : List Int} {ys : List D} (p : ys.Perm (ns.map D.int)) : ∃ ms : List Int, ys = ms.map D.int ∧ ms.Perm ns := by
  have h : ∀ y ∈ ys, ∃ m, y = D.int m := fun y hy => by
    obtain ⟨m, _, rfl⟩ := List.mem_map.mp (p.mem_iff.mp hy)
    exact ⟨m, rfl⟩
  have : ∃ ms : List Int, ys = ms.map D.int := by
    clear p
    induction ys with
    | nil => exact ⟨[], rfl⟩
    | cons y ys ih =>
      obtain ⟨m, rfl⟩ := h y (by simp)
      obtain ⟨ms, rfl⟩ := ih fun z hz => h z (List.mem_cons_of_mem _ hz)
      exact ⟨m :: ms, rfl⟩
  obtain ⟨ms, rfl⟩ := this
  refine ⟨ms, rfl, ?_⟩
  have := p.map fun d => match d with | .int i => i | _ => 0
  simpa [List.map_map, Function.comp_def] using this
theorem srt_ints (ns : List Int) : ∃ ms : List Int, srt (ns.map D.int) = ms.map D.int ∧ ms.Perm ns := perm_map_int (srt_perm _)
/-- sorted whole numbers -/
theorem srt_range {ns : List Int} {n : Nat} (p : ns.Perm ((List.range n).map fun i => ((i : Nat) : Int))) : srt (ns.map D.int) = ((List.range n).map fun i => ((i : Nat) : Int)).map D.int := by
  obtain ⟨ms, e, pm⟩ := srt_ints ns
  have hp : (ms.map D.int).Pairwise fun a b => (PySem.W.dataLe false toP) a b = true := by
    rw [← e]
    refine List.pairwise_mergeSort ?_ ?_ _
    · intro a b c; exact fun h1 h2 => (PySem.W.sortLe_total _ _ _).trans _ _ _ h1 h2
    · intro a b; have := (PySem.W.sortLe_total (PyProof.Rows.listOrd PyProof.Rows.itemOrd) false fun b => PySem.W.keyToks (toP b)).total a b; exact Bool.or_eq_true_iff.mpr this
  rw [e]
  congr 1
  have hle : ms.Pairwise (· ≤ ·) := by
    rw [List.pairwise_map] at hp
    refine hp.imp fun {a b} h => ?_
    have := congrFun (congrFun (PySem.W.dataLe_int (β := Int) id) a) b
    have h2 : PySem.W.dataLe false (fun b : Int => PyData.int (id b)) a b = true := h
    rw [this] at h2
    simpa using h2
  have hr : ((List.range n).map fun i => ((i : Nat) : Int)).Pairwise (· ≤ ·) := by
    rw [List.pairwise_map]
    exact List.pairwise_lt_range.imp fun h => by omega
  exact List.Perm.eq_of_pairwise (fun a b _ _ h1 h2 => by omega) hle hr (pm.trans p)
/-! ### applied -/
theorem NKs_ints : ∀ ks : List Int, NKs (ks.map D.int) = some (ks.map fun i => NestedKey.num i)
  | [] => rfl
  | k :: ks => by rw [List.map_cons, NKs, NKs_ints ks]; rfl
theorem keyOf_eI (ks : List Int) : ∃ k, KeyOf (eI ks) k := by
  refine ⟨.tup (ks.map fun i => NestedKey.num i), ?_, ⟨_, rfl⟩, ?_⟩
  · unfold eI NK; rw [NKs_ints]; rfl
  · have : ∀ ks : List Int, NestedKey.depthAll (ks.map fun i => NestedKey.num i) ≤ 1 := by
      intro ks
      induction ks with
      | nil => simp [NestedKey.depthAll]
      | cons k ks ih => simp [NestedKey.depthAll, NestedKey.depth]; try omega
    have := this ks
    simp [NestedKey.depth]; omega
theorem pairsD_rows : ∀ rs : List Row, pairsD (rs.map eRow) = some (rs.map fun r => (eI r.1, D.int r.2))
  | [] => rfl
  | r :: rs => by
    rw [List.map_cons]
    show (pairsD (rs.map eRow)).map (_ :: ·) = _
    rw [pairsD_rows rs]; rfl
theorem allKeys_rows (rs : List Row) : AllKeys (rs.map fun r => (eI r.1, D.int r.2)) := fun p hp => by
  obtain ⟨r, _, rfl⟩ := List.mem_map.mp hp
  exact keyOf_eI _
theorem keyD_eI (f : Fnc) (ks : List Int) : ∃ ms, keyD f ks = eI ms := by
  unfold keyD
  split
  · obtain ⟨ms, e, _⟩ := srt_ints ks
    exact ⟨ms, by rw [e]; rfl⟩
  · exact ⟨ks, rfl⟩
theorem idxs_ok {ns : List Int} : idxs (eI ns) = ns.all fun n => decide (0 ≤ n) := by
  show (ns.map D.int).all isIdx = _
  rw [List.all_map]; rfl
theorem noRef_eI (ns : List Int) : noRef (eI ns) = true := by
  unfold eI noRef
  rw [noRefs_all, List.all_map, List.all_eq_true]
  intro x _; rfl
theorem tSorted {t : AE} {σ : ASt} {h : AH} {R : DK} {x : D} {xs : List D} (h0 : ∀ R' : DK, R' x h → t σ h R') (hx : seqOf h x = some xs) (so : SortsD xs) (q : R (.tup (srt xs)) h) : aFg (aCB cTuple (aCons (aCB cSorted (aCons t aNil)) aNil)) σ h R := by
  show t σ h fun d h1 => cSorted [d] h1 fun d h1 => cTuple [d] h1 fun r h2 => ∃ h0, Sub h0 h2 ∧ R r h0
  refine h0 _ ⟨xs, hx, so, fun p hp => ⟨srt xs, seqOf_ref aup_same, h, .new hp, q⟩⟩
theorem dGet {t0 t1 t2 : AE} {σ : ASt} {h : AH} {R : DK} {x k z : D} {xs : List D} {ps : List (D × D)} (h0 : ∀ (h : AH) (R' : DK), R' x h → t0 σ h R') (h1 : ∀ (h : AH) (R' : DK), R' k h → t1 σ h R') (h2 : ∀ (h : AH) (R' : DK), R' z h → t2 σ h R')
    (hx : seqOf h x = some xs) (hp : pairsD xs = some ps) (ak : AllKeys ps) (kk : ∃ j, KeyOf k j) (q : R ((valD (putsD [] ps) k).getD z) h) : aFg (aM "dict" mGet (aCB cDict (aCons t0 aNil)) (aCons t1 (aCons t2 aNil))) σ h R := by
  show t0 σ h fun d h1 => cDict [d] h1 fun x h1 => tyM h1 x = some "dict" ∧ t1 σ h1 fun k h2 => t2 σ h2 fun z h3 => mGet x [k, z] h3 fun d h1 => ∃ h0, Sub h0 h1 ∧ R d h0
  refine h0 _ _ (.inr ⟨xs, ps, hx, hp, ak, fun p hp => ⟨by simp [tyM, aup_same], h1 _ _ (h2 _ _ ?_)⟩⟩)
  unfold mGet gotD
  simp only [aup_same]
  exact ⟨kk, h, .new hp, q⟩
theorem pure_applied (CN : Addr) (ds : List D) (h : AH) (R : DK) (E : AXK) (q : sp_applied CN ds h R E) : t_applied E CN { nx := fun _ h' => fgR R .non h', rt := fgR R } (astart N_applied ds) h := by
  obtain ⟨P, w, x, ws, rfl, ok, okx, hl, q1, q2⟩ := q
  simp only [t_applied, aSeq_def, aSet_def, aCall_def, aCons_def, aVar_def, aNil_def, astart, N_applied]
  simp
  refine ⟨P, x, rfl, ok, okx, fun i hi => ?_, q1⟩
  have hil := (List.findIdx?_eq_some_iff_findIdx_eq.mp hi).1
  have hf := List.getElem?_eq_getElem hil
  have ht := List.getElem?_eq_getElem (l := w.tabs) (i := i) (by omega)
  generalize P.fs[i] = f at hf
  generalize w.tabs[i]'(by omega) = t at ht
  obtain ⟨q2, q3⟩ := q2 i f t hi hf ht
  have e1 : atI (P.fs.map eFn) (i : Int) = some (eFn f) := atI_at (by rw [List.getElem?_map, hf]; rfl)
  have e2 : atI (w.tabs.map eTab) (i : Int) = some (eTab t) := atI_at (by rw [List.getElem?_map, ht]; rfl)
  simp [eP, eW, e1, e2, eFn, sp_are_indexes, noRef_eI, aRaise, idxs_ok]
  by_cases g1 : ∀ x : Int, x ∈ ws → 0 ≤ x
  · rw [if_pos g1]
    by_cases g2 : (ws.length : Int) = f.p
    · rw [if_pos g2]
      refine ⟨ws, w.many, rfl, ?_⟩
      by_cases g3 : (ws.all fun n => decide (n < w.many)) = true
      · simp only [g3, if_true]
        have q3 := q3 ⟨by simpa using g1, by omega, g3⟩
        unfold applyT at q3
        refine ⟨(ok f (List.mem_of_getElem? hf)).2.1, ?_⟩
        by_cases g4 : f.how = Str.ofString "either"
        · rw [if_pos g4]
          refine tSorted (x := eI ws) (xs := ws.map D.int) (fun R r => by simpa using r) rfl (sortsInts ws) ?_
          simp [eTab]
          refine dGet (x := .tup (t.1.map eRow)) (k := keyD f ws) (z := .int t.2) (fun h R r => by simpa using r) (fun h R r => ?_) (fun h R r => by simpa using r) rfl (pairsD_rows _) (allKeys_rows _) ?_ (fgr q3)
          · unfold keyD at r; rw [if_pos g4] at r; simpa using r
          · obtain ⟨ms, e⟩ := keyD_eI f ws; rw [e]; exact keyOf_eI ms
        · rw [if_neg g4]
          simp [eTab]
          refine dGet (x := .tup (t.1.map eRow)) (k := keyD f ws) (z := .int t.2) (fun h R r => by simpa using r) (fun h R r => ?_) (fun h R r => by simpa using r) rfl (pairsD_rows _) (allKeys_rows _) ?_ (fgr q3)
          · unfold keyD at r; rw [if_neg g4] at r; simpa using r
          · obtain ⟨ms, e⟩ := keyD_eI f ws; rw [e]; exact keyOf_eI ms
      · simp only [g3, if_false]
        exact q2 fun z => g3 z.2.2
    · rw [if_neg g2]
      exact q2 fun z => g2 (by omega)
  · rw [if_neg g1]
    exact q2 fun z => g1 (by simpa using z.1)
/-! ### the worths -/
theorem okd_strs {xs : List Str} (h : (xs.all fun y => PyData.strOk y) = true) : (xs.map D.str).all (okd 60) = true := by
  rw [List.all_map]; exact h
theorem rInB_strs {f : Bool → Bool} {x : Str} {xs : List Str} {h : AH} {R : DK} (ox : PyData.strOk x = true) (o : (xs.all fun y => PyData.strOk y) = true) (q : R (.bl (f (decide (x ∈ xs)))) h) : rInB f (.str x) (eS xs) h R := by
  refine ⟨xs.map D.str, rfl, ox, okd_strs o, ?_⟩
  have e : ((xs.map D.str).any fun z => D.eqv z (.str x)) = decide (x ∈ xs) := by
    rw [List.any_map, Bool.eq_iff_iff]
    simp [Function.comp_def]
  rw [e]; exact q
theorem firstAt {xs : List Str} {x : Str} (m : x ∈ xs) : ∃ i : Nat, xs[i]? = some x ∧ ∀ j : Nat, j < i → xs[j]? ≠ some x := by
  induction xs with
  | nil => cases m
  | cons y ys ih =>
    by_cases e : y = x
    · exact ⟨0, by simp [e], fun j hj => absurd hj (Nat.not_lt_zero _)⟩
    · obtain ⟨i, h1, h2⟩ := ih (by simpa [Ne.symm e] using m)
      refine ⟨i + 1, by simpa using h1, fun j hj => ?_⟩
      cases j with
      | zero => simpa using e
      | succ j => simpa using h2 j (by omega)
theorem pure_letter_worth (CN : Addr) (ds : List D) (h : AH) (R : DK) (E : AXK) (q : sp_letter_worth CN ds h R E) : t_letter_worth E CN { nx := fun _ h' => fgR R .non h', rt := fgR R } (astart N_letter_worth ds) h := by
  obtain ⟨P, w, x, rfl, hl, o, ox, q1, q2⟩ := q
  simp [t_letter_worth, astart, N_letter_worth, eP, eW, aRaise]
  refine rInB_strs ox o ?_
  by_cases m : x ∈ P.letters
  · simp [m]
    obtain ⟨i, h1, h2⟩ := firstAt m
    have hi := (List.getElem?_eq_some_iff.mp h1).1
    have ht := List.getElem?_eq_getElem (l := w.letters) (i := i) (by omega)
    refine ⟨rfl, P.letters, i, rfl, h1, h2, ?_⟩
    have e : atI (w.letters.map D.int) (i : Int) = some (.int (w.letters[i]'(by omega))) := atI_at (by rw [List.getElem?_map, ht]; rfl)
    unfold eI
    simp [e]
    exact fgr (q2 i _ h1 h2 ht)
  · simp [m]
    exact q1 m
theorem pure_input_worth (CN : Addr) (ds : List D) (h : AH) (R : DK) (E : AXK) (q : sp_input_worth CN ds h R E) : t_input_worth E CN { nx := fun _ h' => fgR R .non h', rt := fgR R } (astart N_input_worth ds) h := by
  obtain ⟨P, w, x, rfl, hl, o, ox, q1, q2⟩ := q
  simp [t_input_worth, astart, N_input_worth, eP, eW, aRaise]
  refine rInB_strs ox o ?_
  by_cases m : x ∈ P.inputs
  · simp [m]
    obtain ⟨i, h1, h2⟩ := firstAt m
    have hi := (List.getElem?_eq_some_iff.mp h1).1
    have ht := List.getElem?_eq_getElem (l := w.inputs) (i := i) (by omega)
    refine ⟨rfl, P.inputs, i, rfl, h1, h2, ?_⟩
    have e : atI (w.inputs.map D.int) (i : Int) = some (.int (w.inputs[i]'(by omega))) := atI_at (by rw [List.getElem?_map, ht]; rfl)
    unfold eI
    simp [e]
    exact fgr (q2 i _ h1 h2 ht)
  · simp [m]
    exact q1 m
theorem pure_any_worth (CN : Addr) (ds : List D) (h : AH) (R : DK) (E : AXK) (q : sp_any_worth CN ds h R E) : t_any_worth E CN { nx := fun _ h' => fgR R .non h', rt := fgR R } (astart N_any_worth ds) h := by
  obtain ⟨w, k, rfl, k0, q⟩ := q
  have hk : Tyd h (.int k) := ⟨_, rfl⟩
  simp [t_any_worth, astart, N_any_worth, eW, aRaise, sp_is_index, hk, isIdx, k0]
  by_cases g : k < w.anys.length
  · rw [if_pos g]
    have ht := List.getElem?_eq_getElem (l := w.anys) (i := k.toNat) (by omega)
    have e : atI (w.anys.map D.int) k = some (.int (w.anys[k.toNat]'(by omega))) := by
      have := atI_at (xs := w.anys.map D.int) (i := k.toNat) (x := .int (w.anys[k.toNat]'(by omega))) (by rw [List.getElem?_map, ht]; rfl)
      rwa [Int.toNat_of_nonneg k0] at this
    unfold eI
    simp [e]
    refine fgr ?_
    rw [List.getD_eq_getElem?_getD, ht] at q
    exact q
  · rw [if_neg g]
    refine fgr ?_
    rw [List.getD_eq_getElem?_getD, List.getElem?_eq_none (by omega)] at q
    exact q
end AX

set_option Elab.async false
set_option linter.all false
set_option maxRecDepth 100000
set_option maxHeartbeats 4000000
namespace AX
open PySem PySem.Spec PyProof.Rows L2
section
variable {t0 te : AE} {tt : AT} {i : Nat} {vs : List Nat} {σ : ASt} {h : AH} {R : DK} {xs : List D} {x : D}
theorem lcMap (f : D → D) (h0 : ∀ R : DK, R x h → t0 σ h R) (hx : seqOf h x = some xs)
    (step : ∀ d ∈ xs, ∀ h', Sub h h' → ∀ K : DK, (∀ h'', Sub h' h'' → K (f d) h'') → te ((awipe σ vs).set i (some d)) h' K) (q : xs.length ≤ sizeLine → ∀ p, h p = none → R (.ref p) (aup h p (.lst (xs.map f)))) : aLc (iSeq t0) (aName i) aYes te vs σ h R := by
  have hz : ∀ R' : AItems → AH → Prop, (xs.length ≤ sizeLine → R' (fun h => seqOf h x) h) → iSeq t0 σ h R' := fun R' hr => h0 _ ⟨xs, hx, hr⟩
  by_cases hl : xs.length ≤ sizeLine
  · refine aLc_pure (fun d => some (f d)) hz (fun h' s => seqOf_sub s hx) (fun d hd h' s K hK => ?_) fun p hp => by simpa using q hl p hp
    unfold lcBody
    simp
    exact step d hd h' s _ hK
  · exact h0 _ ⟨xs, hx, fun z => absurd z hl⟩
theorem tupMap (f : D → D) (h0 : ∀ R : DK, R x h → t0 σ h R) (hx : seqOf h x = some xs)
    (step : ∀ d ∈ xs, ∀ h', Sub h h' → ∀ K : DK, (∀ h'', Sub h' h'' → K (f d) h'') → te ((awipe σ vs).set i (some d)) h' K) (q : xs.length ≤ sizeLine → R (.tup (xs.map f)) h) : aFg (aCB cTuple (aCons (aLc (iSeq t0) (aName i) aYes te vs) aNil)) σ h R := by
  show aLc (iSeq t0) (aName i) aYes te vs σ h (fun d h1 => cTuple [d] h1 (fun r h2 => ∃ h0, Sub h0 h2 ∧ R r h0))
  exact lcMap f h0 hx step fun hl p hp => ⟨_, seqOf_ref aup_same, h, .new hp, q hl⟩
theorem tupFilter (f : D → Bool) (h0 : ∀ R : DK, R x h → t0 σ h R) (hx : seqOf h x = some xs)
    (step : ∀ d ∈ xs, ∀ h', Sub h h' → ∀ K : Bool → AH → Prop, K (f d) h' → tt ((awipe σ vs).set i (some d)) h' K) (sv : ∀ d ∈ xs, ∀ h', ∀ K : DK, K d h' → te ((awipe σ vs).set i (some d)) h' K) (q : xs.length ≤ sizeLine → R (.tup (xs.filter f)) h) : aFg (aCB cTuple (aCons (aLc (iSeq t0) (aName i) tt te vs) aNil)) σ h R := by
  show aLc (iSeq t0) (aName i) tt te vs σ h (fun d h1 => cTuple [d] h1 (fun r h2 => ∃ h0, Sub h0 h2 ∧ R r h0))
  have hz : ∀ R' : AItems → AH → Prop, (xs.length ≤ sizeLine → R' (fun h => seqOf h x) h) → iSeq t0 σ h R' := fun R' hr => h0 _ ⟨xs, hx, hr⟩
  by_cases hl : xs.length ≤ sizeLine
  · refine aLc_pure (fun d => if f d = true then some d else none) hz (fun h' s => seqOf_sub s hx) (fun d hd h' s K hK => ?_) fun p hp => ⟨_, seqOf_ref aup_same, h, .new hp, ?_⟩
    · unfold lcBody
      simp only [aName_def]
      refine step d hd h' s _ ?_
      by_cases e : f d = true
      · rw [if_pos e]
        refine sv d hd h' _ ?_
        have := hK h' (.refl h')
        rwa [if_pos e] at this
      · rw [if_neg e]
        have := hK h' (.refl h')
        rwa [if_neg e] at this
    · have := q hl
      have e : xs.filterMap (fun d => if f d = true then some d else none) = xs.filter f := by
        rw [← List.filterMap_eq_filter]
        rfl
      first | rwa [e] | (rw [e]; exact this)
  · exact h0 _ ⟨xs, hx, fun z => absurd z hl⟩
end
theorem atI_o {o : List Int} {k : Int} (w : Within o.length k) : atI (o.map D.int) k = some (.int (atO o k)) := by
  obtain ⟨k0, k1⟩ := w
  have ht := List.getElem?_eq_getElem (l := o) (i := k.toNat) (by omega)
  have := atI_at (xs := o.map D.int) (i := k.toNat) (x := .int (atO o k)) (by rw [List.getElem?_map, ht]; unfold atO; rw [List.getD_eq_getElem?_getD, ht]; rfl)
  rwa [Int.toNat_of_nonneg k0] at this
def gO (o : List Int) : D → D
  | .int k => .int (atO o k)
  | d => d
theorem map_gO (o ns : List Int) : (ns.map D.int).map (gO o) = (ns.map (atO o)).map D.int := by
  rw [List.map_map, List.map_map]; rfl
theorem pure_row_otherwise (ds : List D) (h : AH) (R : DK) (E : AXK) (q : sp_row_otherwise ds h R E) : t_row_otherwise { nx := fun _ h' => fgR R .non h', rt := fgR R } (astart N_row_otherwise ds) h := by
  obtain ⟨f, o, r, rfl, ok, w, q⟩ := q
  simp [t_row_otherwise, astart, N_row_otherwise]
  refine lcMap (gO o) (x := eI r.1) (xs := r.1.map D.int) (fun R z => by simpa [eRow] using z) rfl (fun d hd h' s K hK => ?_) fun hl p hp => ?_
  · obtain ⟨k, hk, rfl⟩ := List.mem_map.mp hd
    simp [awipe, eI, atI_o (w.1 k hk)]
    exact hK _ (.refl _)
  · simp
    have key : ∀ h' (R' : DK), h' p = some (.lst ((r.1.map (atO o)).map D.int)) → R' (keyD f (r.1.map (atO o))) h' →
      aFg (aCB cTuple (aCons (aIf (aTest (aOp rEq (aOp rIx (aVar 0) (aC (.int 2))) (aC (.str "either")))) (aCB cSorted (aCons (aVar 3) aNil)) (aVar 3)) aNil)) [some (eFn f), some (eI o), some (eRow r), some (.ref p), none] h' R' := fun h' R' e q => by
      show aIf _ _ _ _ _ (fun d h1 => cTuple [d] h1 (fun r h2 => ∃ h0, Sub h0 h2 ∧ R' r h0))
      simp [eFn]
      refine ⟨ok.2.1, ?_⟩
      unfold keyD at q
      by_cases g : f.how = Str.ofString "either"
      · rw [if_pos g] at q ⊢
        exact ⟨_, seqOf_ref e, sortsInts _, fun p' hp' => ⟨_, seqOf_ref aup_same, h', .new hp', q⟩⟩
      · rw [if_neg g] at q ⊢
        exact ⟨_, seqOf_ref e, h', .refl _, q⟩
    refine key _ _ (by rw [aup_same, ← map_gO, List.map_map]) ?_
    simp [eRow, eI, atI_o w.2]
    refine ⟨by decide, h, .new hp, ?_⟩
    exact q
end AX

set_option Elab.async false
set_option linter.all false
set_option maxRecDepth 100000
set_option maxHeartbeats 4000000
namespace AX
open PySem PySem.Spec PyProof.Rows L2
section
variable {t0 te : AE} {tt : AT} {i : Nat} {vs : List Nat} {σ : ASt} {h : AH} {R : DK} {xs : List D} {x : D}
theorem tupSortMap (f : D → D) (h0 : ∀ R : DK, R x h → t0 σ h R) (hx : seqOf h x = some xs)
    (step : ∀ d ∈ xs, ∀ h', Sub h h' → ∀ K : DK, (∀ h'', Sub h' h'' → K (f d) h'') → te ((awipe σ vs).set i (some d)) h' K) (so : SortsD (xs.map f)) (q : xs.length ≤ sizeLine → R (.tup (srt (xs.map f))) h) : aFg (aCB cTuple (aCons (aCB cSorted (aCons (aLc (iSeq t0) (aName i) aYes te vs) aNil)) aNil)) σ h R := by
  show aLc (iSeq t0) (aName i) aYes te vs σ h (fun d h1 => cSorted [d] h1 fun d h1 => cTuple [d] h1 (fun r h2 => ∃ h0, Sub h0 h2 ∧ R r h0))
  exact lcMap f h0 hx step fun hl p hp => ⟨_, seqOf_ref aup_same, so, fun p' hp' => ⟨_, seqOf_ref aup_same, h, (Sub.new hp).trans (.new hp'), q hl⟩⟩
end
theorem appG {te : AE} {i : Nat} {σ : ASt} {h : AH} {K : DK} {p : Addr} {xs : List D} (e : σ[i]? = some (some (.ref p))) (hp : h p = some (.lst xs)) (q : te σ h fun y h1 => mAppend (.ref p) [y] h1 (fgR K)) : aFg (aM "list" mAppend (aVar i) (aCons te aNil)) σ h K := by
  show aVar i σ h fun x h1 => tyM h1 x = some "list" ∧ te σ h1 fun y h2 => mAppend x [y] h2 (fgR K)
  simp only [aVar_def, e]
  exact ⟨by simp [tyM, hp], q⟩
theorem mApp {h : AH} {K : DK} {p : Addr} {xs : List D} {y : D} (hp : h p = some (.lst xs)) (hz : xs.length < sizeLine) (q : K .non (aup h p (.lst (xs ++ [y])))) : mAppend (.ref p) [y] h (fgR K) := ⟨xs, hp, hz, _, .refl _, q⟩
def gT (o : List Int) : D → D
  | .tup xs => .tup (xs.map (gO o))
  | d => d
theorem gT_eI (o ns : List Int) : gT o (eI ns) = eI (ns.map (atO o)) := by
  unfold eI gT
  simp only [map_gO]
theorem atO_step {o ns : List Int} (w : ∀ k ∈ ns, Within o.length k) {d : D} (hd : d ∈ ns.map D.int) : ∀ {i j : Nat} {σ : ASt} {h : AH} {K : DK}, σ[i]? = some (some (eI o)) → σ[j]? = some (some d) → K (gO o d) h → aOp rIx (aVar i) (aVar j) σ h K := by
  intro i j σ h K e1 e2 q
  obtain ⟨k, hk, rfl⟩ := List.mem_map.mp hd
  simp [e1, e2, eI, atI_o (w k hk)]
  exact q
theorem otherRow_eRow (f : Fnc) (o : List Int) (r : Row) : ∃ r', otherRow f o r = eRow r' := by
  unfold otherRow
  obtain ⟨ms, e⟩ := keyD_eI f (r.1.map (atO o))
  exact ⟨(ms, atO o r.2), by rw [e]; rfl⟩
theorem otherRows_eRows (f : Fnc) (o : List Int) (rs : List Row) : ∃ rs' : List Row, rs.map (otherRow f o) = rs'.map eRow := by
  induction rs with
  | nil => exact ⟨[], rfl⟩
  | cons r rs ih =>
    obtain ⟨r', e⟩ := otherRow_eRow f o r
    obtain ⟨rs', e'⟩ := ih
    exact ⟨r' :: rs', by rw [List.map_cons, List.map_cons, e, e']⟩
theorem eqvs_ints (a b : List Int) : D.eqvs (a.map D.int) (b.map D.int) = decide (a = b) := by
  have e := eqv_eq (eI a) (eI b) (by unfold eI nobl; rw [nobls_all, List.all_map, List.all_eq_true]; intro _ _; rfl) (by unfold eI nobl; rw [nobls_all, List.all_map, List.all_eq_true]; intro _ _; rfl)
  have : D.eqv (eI a) (eI b) = D.eqvs (a.map D.int) (b.map D.int) := by unfold eI D.eqv D.eqvs toP; rw [PyData.eqv]
  rw [← this, e, decide_eq_decide]
  unfold eI
  constructor
  · intro h; exact map_int_inj (by simpa using h)
  · rintro rfl; rfl
def rgI (n : Nat) : List Int := (List.range n).map fun i => ((i : Nat) : Int)
theorem rgD_eq (n : Nat) : rgD 0 n = (rgI n).map D.int := by
  unfold rgD rgI
  rw [List.map_map]
  congr 1
  funext i
  simp
theorem pure_put_otherwise (CN : Addr) (ds : List D) (h : AH) (R : DK) (E : AXK) (q : sp_put_otherwise CN ds h R E) : t_put_otherwise E CN { nx := fun _ h' => fgR R .non h', rt := fgR R } (astart N_put_otherwise ds) h := by
  obtain ⟨P, w, o, rfl, ok, hm, ho, pe, wi, wz, q⟩ := q
  have nn : ∀ x ∈ o, 0 ≤ x := fun x hx => by
    have := pe.mem_iff.mp hx
    obtain ⟨i, _, rfl⟩ := List.mem_map.mp this
    omega
  simp [t_put_otherwise, astart, N_put_otherwise, eW, sp_are_indexes, noRef_eI, idxs_ok]
  rw [if_pos nn]
  unfold aFgT aListRg
  simp
  refine ⟨o.map D.int, rfl, sortsInts o, fun p hp => ⟨by omega, by omega, fun p' hp' => ?_⟩⟩
  have hne : p' ≠ p := fun e => by rw [e, aup_same] at hp'; cases hp'
  have hmn : w.many.toNat = o.length := by omega
  refine ⟨(rgI o.length).map D.int, (rgI o.length).map D.int, ?_, ?_, by simp [okd], by simp [okd], h, (Sub.new hp).trans (.new hp'), ?_⟩
  · rw [aup_ne hne.symm, aup_same, srt_range pe]; rfl
  · rw [aup_same, rgD_eq, hmn]
  rw [eqvs_ints]
  simp
  intro p hp
  unfold aFor iZip2
  simp [eP]
  refine ⟨rfl, P.fs.map eFn, rfl, ⟨_, rfl⟩, fun hz => ⟨zipD (P.fs.map eFn) (w.tabs.map eTab), by simp [zipOf, seqOf], fun i σ h' => h' = aup h p (.lst ((List.zipWith (fun f t => otherT f o t) P.fs w.tabs).take i)) ∧ ∃ a b c, σ = [some (eP P), some (eW w), some (eI o), some (D.int w.many), some (eI w.letters), some (eI w.inputs), some (eI w.anys),
        some (D.tup (List.map eTab w.tabs)), some (D.ref p), a, b, c, none, none, none, none], ⟨by simp, _, _, _, rfl⟩, fun i σ h' W => ?_⟩⟩
  obtain ⟨rfl, a, b, c, rfl⟩ := W
  refine ⟨by simp [zipOf, seqOf], ?_⟩
  have e1 : (zipD (P.fs.map eFn) (w.tabs.map eTab))[i]? = (List.zipWith (fun f t => D.tup [eFn f, eTab t]) P.fs w.tabs)[i]? := by
    unfold zipD; rw [List.zipWith_map]
  rw [e1, List.getElem?_zipWith']
  have fin : ∀ a b c : Option D, P.fs.length ≤ i ∨ w.tabs.length ≤ i → aLc (iSeq (aTup (aCons (aVar 4) (aCons (aVar 5) (aCons (aVar 6) aNil))))) (aName 15) aYes
    (aFg (aCB cTuple (aCons (aLc (iSeq (aVar 15)) (aName 14) aYes (aOp rIx (aVar 2) (aVar 14)) [14]) aNil))) [15]
    [some (eP P), some (eW w), some (eI o), some (D.int w.many), some (eI w.letters), some (eI w.inputs),
      some (eI w.anys), some (D.tup (List.map eTab w.tabs)), some (D.ref p), a, b, c, none, none, none, none]
    (aup h p (O.lst (List.take i (List.zipWith (fun f t => otherT f o t) P.fs w.tabs)))) fun d h1 =>
    rIx d (D.int 0) h1 fun x h1 =>
      rIx d (D.int 1) h1 fun x_1 h1 =>
        rIx d (D.int 2) h1 fun x_2 h1 =>
          cTuple [D.ref p] h1 fun x_3 h1 => 5 ≤ sizeLine ∧ fgR R (D.tup [D.int w.many, x, x_1, x_2, x_3]) h1 := fun a b c hi => by
    have et : List.take i (List.zipWith (fun f t => otherT f o t) P.fs w.tabs) = List.zipWith (fun f t => otherT f o t) P.fs w.tabs := List.take_of_length_le (by simp; omega)
    rw [et]
    refine lcMap (gT o) (x := .tup [eI w.letters, eI w.inputs, eI w.anys]) (xs := [eI w.letters, eI w.inputs, eI w.anys]) (fun R z => by simp; exact ⟨by decide, z⟩) rfl (fun d hd h' s K hK => ?_) fun hl p3 hp3 => ?_
    · have hd' : ∃ ns : List Int, d = eI ns ∧ ∀ k ∈ ns, Within o.length k := by
        simp at hd
        rcases hd with rfl | rfl | rfl
        · exact ⟨_, rfl, wi.l⟩
        · exact ⟨_, rfl, wi.i⟩
        · exact ⟨_, rfl, wi.a⟩
      obtain ⟨ns, rfl, wn⟩ := hd'
      refine tupMap (gO o) (x := eI ns) (xs := ns.map D.int) (fun R z => by simp [awipe]; exact z) rfl (fun d hd h' s K hK => ?_) fun hl => ?_
      · exact atO_step wn hd (by simp [awipe]) (by simp [awipe]) (hK _ (.refl _))
      · rw [map_gO]
        have := hK _ (.refl _)
        rwa [gT_eI] at this
    · have hpp : p3 ≠ p := fun e => by rw [e, aup_same] at hp3; cases hp3
      simp only [List.map_cons, List.map_nil, gT_eI]
      unfold rIx
      simp only [aup_same, atI_lit0, atI_lit1, atI_lit2]
      refine ⟨_, seqOf_ref (by rw [aup_ne hpp.symm, aup_same]), by decide, h, (Sub.new hp).trans (.new hp3), q⟩
  cases ef : P.fs[i]? with
  | none =>
    simp
    exact fin a b c (.inl (List.getElem?_eq_none_iff.mp ef))
  | some f =>
    cases et : w.tabs[i]? with
    | none =>
      simp
      exact fin a b c (.inr (List.getElem?_eq_none_iff.mp et))
    | some t =>
      simp [eTab]
      have wt := wi.t t (List.mem_of_getElem? et)
      have hft := ok f (List.mem_of_getElem? ef)
      have hlen : (List.zipWith (fun f t => otherT f o t) P.fs w.tabs)[i]? = some (otherT f o t) := by rw [List.getElem?_zipWith', ef, et]; rfl
      have hi := (List.getElem?_eq_some_iff.mp ef).1
      refine appG (xs := (List.zipWith (fun f t => otherT f o t) P.fs w.tabs).take i) rfl aup_same ?_
      have hzz : (List.take i (List.zipWith (fun f t => otherT f o t) P.fs w.tabs)).length < sizeLine := by
        have : (List.take i (List.zipWith (fun f t => otherT f o t) P.fs w.tabs)).length ≤ i := List.length_take_le i _
        simp at hz
        omega
      · simp only [aTup_def, aCons_def, aNil_def]
        refine tupSortMap (fun d => otherRow f o (dRow d)) (x := .tup (t.1.map eRow)) (xs := t.1.map eRow) (fun R z => by simp; exact z) rfl (fun d hd h' s K hK => ?_) ?_ fun hl => ?_
        · obtain ⟨r, hr, rfl⟩ := List.mem_map.mp hd
          simp [awipe]
          exact ⟨f, o, r, rfl, hft, wt.1 r hr, by simpa using hK _ (.refl _)⟩
        · rw [List.map_map]
          obtain ⟨rs', e⟩ := otherRows_eRows f o t.1
          have : t.1.map ((fun d => otherRow f o (dRow d)) ∘ eRow) = t.1.map (otherRow f o) := by simp [Function.comp_def]
          rw [this, e]
          exact sortsRows _
        · refine atO_step (ns := [t.2]) (d := .int t.2) (by simpa using wt.2) (by simp) rfl rfl ⟨by simp; decide, mApp aup_same hzz (Fgt.of ⟨?_, _, _, _, rfl⟩)⟩
          rw [aup_aup, List.take_add_one, hlen]
          have : (t.1.map eRow).map (fun d => otherRow f o (dRow d)) = t.1.map (otherRow f o) := by simp [Function.comp_def]
          rw [this]; rfl
theorem pure_least_world (ds : List D) (h : AH) (R : DK) (E : AXK) (q : sp_least_world ds h R E) : t_least_world { nx := fun _ h' => fgR R .non h', rt := fgR R } (astart N_least_world ds) h := by
  obtain ⟨P, w, rfl, wz, q⟩ := q
  simp [t_least_world, astart, N_least_world]
  refine lcTup (s := fun h => seqOf h (.tup (w.tabs.map eTab))) (xs := w.tabs.map eTab) (h1 := h) (fun d => some (eTab (leastT (dTab d)))) (fun R' hr => ?_) (fun h' s => rfl) (fun d hd h' s K hK => ?_) ?_
  · unfold iSeq
    simp [eW]
    exact ⟨_, rfl, fun hz => hr (by simpa using hz)⟩
  · obtain ⟨t, ht, rfl⟩ := List.mem_map.mp hd
    unfold lcBody
    simp [awipe, eTab]
    refine tupFilter (fun d => decide ((dRow d).2 ≠ t.2)) (x := .tup (t.1.map eRow)) (xs := t.1.map eRow) (fun R z => by simp [eW]; exact z) rfl (fun d hd h' s K hK => ?_) (fun d hd h' K hK => ?_) fun hl => ?_
    · obtain ⟨r, hr, rfl⟩ := List.mem_map.mp hd
      simp [awipe, eRow, eW]
      simpa using hK
    · simp [awipe, eW]; exact hK
    · refine ⟨by decide, ?_⟩
      have := hK h' (.refl _)
      simp only [dTab_eTab] at this
      have e : (t.1.map eRow).filter (fun d => decide ((dRow d).2 ≠ t.2)) = (leastT t).1.map eRow := by
        rw [List.filter_map]
        unfold leastT
        simp [Function.comp_def]
      rw [e]
      exact this
  · have cut : ∀ a b c d e : D, cutD [a, b, c, d, e] none (some 4) = [a, b, c, d] := fun _ _ _ _ _ => rfl
    simp [eW, rSl, cut, rAdd]
    refine ⟨by decide, by decide, fgr ?_⟩
    simpa [eW, leastW, Function.comp_def] using q
end AX

set_option Elab.async false
set_option linter.all false
set_option maxRecDepth 100000
set_option maxHeartbeats 4000000
namespace AX
open PySem PySem.Spec PyProof.Rows L2
theorem rIxR {h : AH} {a : Addr} {xs : List D} {i : Int} {R : DK} (e : h a = some (.lst xs)) : rIx (.ref a) (.int i) h R = (match atI xs i with | some d => R d h | none => False) := by
  unfold rIx; simp only [e] <;> (cases atI xs i <;> rfl)
theorem rSlR {h : AH} {a : Addr} {xs : List D} {lo hi : Option Int} {R : DK} (e : h a = some (.lst xs)) : rSl (.ref a) lo hi h R = ∀ p, h p = none → R (.ref p) (aup h p (.lst (cutD xs lo hi))) := by
  unfold rSl; simp only [e]
@[simp] theorem ixN40 : ixN 4 0 = some 0 := rfl
@[simp] theorem ixN41 : ixN 4 1 = some 1 := rfl
@[simp] theorem ixN42 : ixN 4 2 = some 2 := rfl
def take2 : AS := 
    (aSeq (aIfS (aTest (aOp (rI2 (fun _ _ => True) fun i j => .bl (decide (j < i))) (aOp rIx (aVar 0) (aC (.int 0))) (aC (.int 0)))) (aSeq (aSet 4 (aOp (rI2 (fun _ j => j ≠ 0) fun i j => .int (i.fmod j)) (aCB cInt (aCons (aOp rIx (aVar 0) (aC (.int 0))) aNil)) (aVar 1)))
    (aSeq (aAsg (aOp (rI2 CDivN fun i j => .int (i.fdiv j)) (aCB cInt (aCons (aOp rIx (aVar 0) (aC (.int 0))) aNil)) (aVar 1)) (aGSub (aVar 0) (aC (.int 0))))
    (aRet (aVar 4)))) aNext)
    (aSeq (aSet 5 (aOp (rI2 (fun _ j => j ≠ 0) fun i j => .int (i.fmod j)) (aCB cInt (aCons (aOp rMul (aOp rAdd (aOp rIx (aVar 0) (aC (.int 1))) (aC (.int 1))) (aC (.int 39373))) aNil)) (aC (.int 1000000007))))
    (aSeq (aSet 6 (aOp (rI2 (fun _ j => j ≠ 0) fun i j => .int (i.fmod j)) (aCB cInt (aCons (aOp rMul (aOp (rI2 (fun _ j => j ≠ 0) fun i j => .int (i.fmod j)) (aCB cInt (aCons (aOp rMul (aVar 5) (aVar 5)) aNil)) (aC (.int 998244353))) (aC (.int 30011))) aNil)) (aC (.int 998244353))))
    (aRet (aOp (rI2 (fun _ j => j ≠ 0) fun i j => .int (i.fmod j)) (aCB cInt (aCons (aOp (rI2 CDivN fun i j => .int (i.fdiv j)) (aVar 6) (aC (.int 7))) aNil)) (aVar 1))))))
structure Bg (h : AH) (b : Addr) (x y z : Int) (a : Addr) (cs : List Int) : Prop where
  e : h b = some (.lst [.int x, .int y, .int z, .ref a])
  ne : a ≠ b
  c : h a = some (.lst (cs.map D.int))
  x0 : 0 ≤ x
  y0 : 0 ≤ y
  z0 : 0 ≤ z
  cs0 : ∀ c ∈ cs, 0 ≤ c
  cl : cs.length ≤ 64
theorem Bg.at {h : AH} {b : Addr} {x y z : Int} {a : Addr} {cs : List Int} (g : Bg h b x y z a cs) : BagAt h b a := ⟨x, y, z, cs, g.e, g.ne, g.c, g.x0, g.y0, g.z0, g.cs0, g.cl⟩
theorem Bg.bag {h : AH} {b : Addr} {x y z : Int} {a : Addr} {cs : List Int} (g : Bg h b x y z a cs) : Bag h b := ⟨a, g.at⟩
theorem Bg.put {h : AH} {b : Addr} {x y z x' y' z' : Int} {a : Addr} {cs : List Int} (g : Bg h b x y z a cs) (hx : 0 ≤ x') (hy : 0 ≤ y') (hz : 0 ≤ z') : Bg (aup h b (.lst [.int x', .int y', .int z', .ref a])) b x' y' z' a cs :=
  ⟨aup_same, g.ne, by rw [aup_ne g.ne]; exact g.c, hx, hy, hz, g.cs0, g.cl⟩
theorem Fr1.refl {b : Addr} {h : AH} : Fr1 b h h := ⟨fun _ _ _ e => e, fun _ e => e⟩
theorem Fr1.trans {b : Addr} {h h' h'' : AH} (f : Fr1 b h h') (g : Fr1 b h' h'') : Fr1 b h h'' := ⟨fun c u hc e => g.1 c u hc (f.1 c u hc e), fun a e => g.2 a (f.2 a e)⟩
theorem Fr1.put {h h1 : AH} {b : Addr} {x y z x' y' z' : Int} {a : Addr} {cs : List Int} (f : Fr1 b h h1) (g : Bg h1 b x y z a cs) (g' : Bg (aup h1 b (.lst [.int x', .int y', .int z', .ref a])) b x' y' z' a cs) : Fr1 b h (aup h1 b (.lst [.int x', .int y', .int z', .ref a])) := by
  refine ⟨fun c u hc e => by rw [aup_ne hc]; exact f.1 c u hc e, fun a' e => ?_⟩
  obtain ⟨_, _, _, _, e1, _⟩ := f.2 a' e
  have := e1.symm.trans g.e
  have : a' = a := by simp at this; exact this.2.2.2
  subst this
  exact g'.at
/-- what is new leaves the bag -/
theorem BagAt.new {h : AH} {b a p : Addr} {o : O} (g : BagAt h b a) (pb : p ≠ b) (pa : p ≠ a) : BagAt (aup h p o) b a := by
  obtain ⟨x, y, z, cs, e1, e2, e3, r⟩ := g
  exact ⟨x, y, z, cs, by rw [aup_ne pb.symm]; exact e1, e2, by rw [aup_ne pa.symm]; exact e3, r⟩
theorem BagAt.not {h : AH} {b a p : Addr} (g : BagAt h b a) (hp : h p = none) : p ≠ b ∧ p ≠ a := by
  obtain ⟨x, y, z, cs, e1, e2, e3, r⟩ := g
  exact ⟨fun e => (by rw [e, e1] at hp; cases hp), fun e => (by rw [e, e3] at hp; cases hp)⟩
theorem Fr1.new {h h' : AH} {b p : Addr} {o : O} (f : Fr1 b h h') (hp : h p = none) (pb : p ≠ b) : Fr1 b h (aup h' p o) :=
  ⟨fun c u hc e => by
    rw [aup_ne (fun z => by rw [z, hp] at e; cases e)]
    exact f.1 c u hc e, fun a g => (f.2 a g).new pb (g.not hp).2⟩
theorem Fr1.bag {h h' : AH} {b : Addr} (f : Fr1 b h h') (g : Bag h b) : Bag h' b := let ⟨a, g⟩ := g; ⟨a, f.2 a g⟩
theorem Bag.not {h : AH} {b p : Addr} (g : Bag h b) (hp : h p = none) : p ≠ b := let ⟨_, g⟩ := g; (g.not hp).1
theorem Fr1.sub {h h' : AH} {b : Addr} (s : Sub h h') : Fr1 b h h' := ⟨fun c u _ e => s c u e, fun a ⟨x, y, z, cs, e1, e2, e3, r⟩ => ⟨x, y, z, cs, s _ _ e1, e2, s _ _ e3, r⟩⟩
theorem take2_ok {h h1 : AH} {b a : Addr} {x y z m : Int} {cs : List Int} {R : DK} {E : AEnds} {σ2 σ3 : Option D} (g : Bg h1 b x y z a cs) (f : Fr1 b h h1) (m0 : 0 < m) (m1 : m < 1073741824) (er : E.rt = fgR R) (q : ∀ v h', 0 ≤ v → v < m → Bag h' b → Fr1 b h h' → R (.int v) h') : take2 E [some (.ref b), some (.int m), σ2, σ3, none, none, none] h1 := by
  have eb := g.e
  have md : ∀ i : Int, 0 ≤ i.fmod m ∧ i.fmod m < m := fun i => ⟨Int.fmod_nonneg_of_pos i m0, Int.fmod_lt_of_pos i m0⟩
  simp [take2, rIxR eb, cInt, er]
  by_cases hx : 0 < x
  · rw [if_pos hx]
    unfold CDivN
    simp [aGSub, eb]
    have g' := g.put (x' := x.fdiv m) (Int.fdiv_nonneg (by omega) (by omega)) g.y0 g.z0
    refine ⟨by omega, ⟨by omega, by omega⟩, fgr (q _ _ (md _).1 (md _).2 g'.bag (f.put g g'))⟩
  · rw [if_neg hx]
    simp [rAdd, rMul, CMul, CDivN]
    have p1 : 0 ≤ ((y + 1) * 39373).fmod 1000000007 := Int.fmod_nonneg_of_pos _ (by decide)
    have p2 : ((y + 1) * 39373).fmod 1000000007 < 1000000007 := Int.fmod_lt_of_pos _ (by decide)
    exact ⟨⟨by omega, by omega⟩, by omega, fgr (q _ _ (md _).1 (md _).2 g.bag f)⟩
theorem cutD_tail {cs : List Int} {z : Int} (z0 : 0 ≤ z) (c0 : ∀ c ∈ cs, 0 ≤ c) : ∃ ds : List Int, cutD (cs.map D.int) (some z) none = ds.map D.int ∧ (∀ c ∈ ds, 0 ≤ c) ∧ ds.length ≤ cs.length := by
  unfold cutD
  refine ⟨((cs.drop (HT.sIx (cs.map D.int).length 0 (some z))).take (HT.sIx (cs.map D.int).length (cs.map D.int).length none - HT.sIx (cs.map D.int).length 0 (some z))), ?_, ?_, ?_⟩
  · rw [List.map_take, List.map_drop]
  · exact fun c hc => c0 c (List.mem_of_mem_drop (List.mem_of_mem_take hc))
  · simp; omega
theorem cell_ok {h : AH} {b a : Addr} {x y z : Int} {cs : List Int} {R : DK} {σ : ASt} (g : Bg h b x y z a cs) (e0 : σ[0]? = some (some (.ref b))) (q : ∀ c : Int, 0 ≤ c → R (.int c) h) :
    aFg (aOp rIx (aOp rAdd (aSl (aOp rIx (aVar 0) (aC (.int 3))) (aPart (aOp rIx (aVar 0) (aC (.int 2)))) aNoPart) (aLst (aCons (aC (.int 0)) aNil))) (aC (.int 0))) σ h R := by
  have eb := g.e
  unfold aFg
  simp [e0, rIxR eb, rSlR g.c]
  intro p hp
  refine ⟨by decide, fun p' hp' => ?_⟩
  have hne : p' ≠ p := fun e => by rw [e, aup_same] at hp'; cases hp'
  obtain ⟨ds, ed, d0, dl⟩ := cutD_tail g.z0 g.cs0
  rw [ed] at hp' ⊢
  unfold rAdd
  have cl := g.cl
  refine ⟨ds.map D.int, [.int 0], by rw [aup_ne hne.symm, aup_same], aup_same, ?_, fun p'' hp'' => ?_⟩
  · simp; have : 65 ≤ sizeLine := by decide
    omega
  · show rIx _ _ _ _
    rw [rIxR aup_same]
    have : ∃ c : Int, 0 ≤ c ∧ atI (ds.map D.int ++ [.int 0]) 0 = some (.int c) := by
      cases ds with
      | nil => exact ⟨0, by decide, rfl⟩
      | cons c r => exact ⟨c, d0 c (by simp), atI_0⟩
    obtain ⟨c, c0, e⟩ := this
    simp only [e]
    exact ⟨h, ((Sub.new hp).trans (.new hp')).trans (.new hp''), q c c0⟩
theorem pure__law_take (ds : List D) (h : AH) (R : DK) (E : AXK) (q : sp__law_take ds h R E) : t__law_take { nx := fun _ h' => fgR R .non h', rt := fgR R } (astart N__law_take ds) h := by
  obtain ⟨b, m, rfl, m0, m1, ⟨a, x, y, z, cs, eb, ne, ec, x0, y0, z0, c0, cl⟩, q⟩ := q
  have g : Bg h b x y z a cs := ⟨eb, ne, ec, x0, y0, z0, c0, cl⟩
  show aIfS _ _ aNext { nx := take2 { nx := fun _ h' => fgR R .non h', rt := fgR R }, rt := fgR R } [some (.ref b), some (.int m), none, none, none, none, none] h
  simp only [aIfS_def, aTest_def, aOp_def, aVar_def, aC_def]
  simp only [List.getElem?_cons_zero, rIxR eb, atI_lit0]
  simp only [rEqB_int]
  have t2 : ∀ {h1 : AH} {x y z : Int} {σ2 σ3 : Option D}, Bg h1 b x y z a cs → Fr1 b h h1 → take2 { nx := fun _ h' => fgR R .non h', rt := fgR R } [some (.ref b), some (.int m), σ2, σ3, none, none, none] h1 := fun g f => take2_ok g f m0 m1 rfl q
  by_cases hx : x = 0
  · simp only [id, hx, decide_true, if_true]
    simp only [aSeq_def, aSet_def]
    refine cell_ok g rfl fun c hc => ?_
    simp [aAugSub, rIxR eb, eb, aup_same, rMul, CMul, rAdd, CPow, cInt, aGSub]
    have y' : ∀ i : Int, 0 ≤ i.fmod 2147483647 := fun i => Int.fmod_nonneg_of_pos _ (by decide)
    by_cases hb : 1000000000000000000 ≤ c
    · rw [if_pos hb, aup_aup]
      simp [rIxR aup_same, aup_same, aup_aup]
      have g' := g.put (y' := (y * 48271 + c.fmod 2147483647 + 7919 * (z + 1)).fmod 2147483647) (z' := z + 1) hc (y' _) (by omega)
      exact t2 g' (Fr1.refl.put g g')
    · rw [if_neg hb]
      simp [rIxR aup_same, aup_same, aup_aup]
      have g' := g.put (y' := (y * 48271 + c.fmod 2147483647 + 7919 * (z + 1)).fmod 2147483647) (z' := z + 1) x0 (y' _) (by omega)
      exact t2 g' (Fr1.refl.put g g')
  · simp only [id, hx, decide_false]
    simp
    exact t2 g .refl
end AX

set_option Elab.async false
set_option linter.all false
set_option maxRecDepth 100000
set_option maxHeartbeats 4000000
namespace AX
open PySem PySem.Spec PyProof.Rows L2
theorem seqOf_fr {b : Addr} {h h' : AH} {x : D} {xs : List D} (f : Fr1 b h h') (nb : x ≠ .ref b) (e : seqOf h x = some xs) : seqOf h' x = some xs := by
  cases x with
  | tup _ => exact e
  | ref a =>
    unfold seqOf at e ⊢
    simp only at e ⊢
    cases q : h a with
    | none => rw [q] at e; cases e
    | some o =>
      rw [f.1 a o (fun z => nb (by rw [z])) q]
      rw [q] at e
      exact e
  | _ => cases e
theorem cLen_seq {h : AH} {x : D} {xs : List D} {R : DK} (e : seqOf h x = some xs) (q : R (.int xs.length) h) : cLen [x] h R := by
  cases x with
  | tup _ => cases e; exact q
  | ref a =>
    unfold seqOf at e
    simp only at e
    unfold cLen
    simp only
    split at e <;> simp_all
  | _ => cases e
theorem rIx_seq {h : AH} {x : D} {xs : List D} {i : Int} {d : D} {R : DK} (e : seqOf h x = some xs) (a : atI xs i = some d) (q : R d h) : rIx x (.int i) h R := by
  cases x with
  | tup _ => cases e; simp [a]; exact q
  | ref b =>
    unfold seqOf at e
    simp only at e
    split at e
    · rename_i o eo
      cases e
      rw [rIxR eo]; simp [a]; exact q
    · cases e
  | _ => cases e
theorem pure__law_some (ds : List D) (h : AH) (R : DK) (E : AXK) (q : sp__law_some ds h R E) : t__law_some { nx := fun _ h' => fgR R .non h', rt := fgR R } (astart N__law_some ds) h := by
  obtain ⟨b, x, xs, rfl, nb, g, ex, ne, hl, q⟩ := q
  have l0 : 0 < xs.length := List.length_pos_iff.mpr ne
  simp [t__law_some, astart, N__law_some]
  refine cLen_seq ex ⟨b, xs.length, rfl, by omega, by omega, g, fun v h' v0 v1 g' f => ?_⟩
  have ht := List.getElem?_eq_getElem (l := xs) (i := v.toNat) (by omega)
  refine rIx_seq (seqOf_fr f nb ex) (d := xs[v.toNat]'(by omega)) ?_ (fgr (q _ _ (List.getElem_mem _) g' f))
  have := atI_at ht
  rwa [Int.toNat_of_nonneg v0] at this
theorem pure__law_mixed (ds : List D) (h : AH) (R : DK) (E : AXK) (q : sp__law_mixed ds h R E) : t__law_mixed { nx := fun _ h' => fgR R .non h', rt := fgR R } (astart N__law_mixed ds) h := by
  obtain ⟨b, a, xs, rfl, nb, g, ex, hl, q⟩ := q
  simp [t__law_mixed, astart, N__law_mixed]
  intro p hp
  have hpb : p ≠ b := g.not hp
  have hpa : p ≠ a := fun e => by rw [e, ex] at hp; cases hp
  unfold aFor iSeq
  simp
  refine ⟨xs, seqOf_ref (by rw [aup_ne hpa.symm]; exact ex), fun hz => ⟨xs, seqOf_ref (by rw [aup_ne hpa.symm]; exact ex), fun i σ h' => Fr1 b h h' ∧ (∃ ys : List D, ys.Perm (xs.take i) ∧ h' p = some (.lst ys)) ∧ ∃ u, σ = [some (.ref b), some (.ref a), some (.ref p), u], ⟨Fr1.refl.new hp hpb, ⟨[], by simp, aup_same⟩, _, rfl⟩, fun i σ h' W => ?_⟩⟩
  obtain ⟨f', ⟨ys, py, ey⟩, u, rfl⟩ := W
  have g' := f'.bag g
  refine ⟨seqOf_ref (f'.1 a _ nb ex), ?_⟩
  cases ei : xs[i]? with
  | none =>
    simp
    refine fgr (q ys p h' ?_ g' f' hp ey)
    rwa [List.take_of_length_le (List.getElem?_eq_none_iff.mp ei)] at py
  | some d =>
    simp [tyM, ey]
    have hyl : ys.length ≤ xs.length := by
      have := py.length_eq
      simp at this; omega
    have hi := (List.getElem?_eq_some_iff.mp ei).1
    refine cLen_seq (seqOf_ref ey) ?_
    simp [rAdd]
    refine ⟨b, _, rfl, by omega, by omega, g', fun v h2 v0 v1 g2 f2 => ?_⟩
    have e2 : h2 p = some (.lst ys) := f2.1 p _ hpb ey
    have : 1000 ≤ sizeLine := by decide
    refine ⟨ys, e2, by omega, v0, by omega, Fgt.of ⟨(f'.trans f2).new hp hpb, ⟨_, ?_, aup_same⟩, _, rfl⟩⟩
    rw [List.take_add_one, ei]
    show (ys.take v.toNat ++ [d] ++ ys.drop v.toNat).Perm _
    have h1 : (ys.take v.toNat ++ [d] ++ ys.drop v.toNat).Perm (d :: ys) := by
      rw [List.append_assoc]
      have := List.perm_middle (a := d) (l₁ := ys.take v.toNat) (l₂ := ys.drop v.toNat)
      rwa [List.take_append_drop] at this
    exact h1.trans ((List.Perm.cons d py).trans (List.perm_append_comm (l₁ := [d])))
theorem dig_len {i : Int} (h : 0 ≤ i ∧ i < 10) : (PyData.shown (.int i)).length ≤ 13 := by
  have : i = 0 ∨ i = 1 ∨ i = 2 ∨ i = 3 ∨ i = 4 ∨ i = 5 ∨ i = 6 ∨ i = 7 ∨ i = 8 ∨ i = 9 := by omega
  rcases this with rfl | rfl | rfl | rfl | rfl | rfl | rfl | rfl | rfl | rfl <;> decide +kernel
theorem dig_log {i : Int} (h : 0 ≤ i ∧ i < 10) : i.natAbs.log2 < 1920 := by
  have h1 : i.natAbs < 2 ^ 4 := by omega
  by_cases h0 : i.natAbs = 0
  · rw [h0]; decide
  · have := (Nat.log2_lt h0).mpr h1
    omega
mutual
theorem it_showable : ∀ d : PyData, itP d = true → d.showable = true
  | .int i, h => by
    simp only [itP, decide_eq_true_eq] at h
    simp only [PyData.showable, decide_eq_true_eq]
    exact dig_log h
  | .tuple xs, h => by
    simp only [itP] at h
    simp only [PyData.showable]
    exact its_showable xs h
  | .none, h => by simp [itP] at h
  | .bool _, h => by simp [itP] at h
  | .str _, h => by simp [itP] at h
  | .list _, h => by simp [itP] at h
  | .dict _, h => by simp [itP] at h
theorem its_showable : ∀ ds : List PyData, itPs ds = true → PyData.showableAll ds = true
  | [], _ => by simp [PyData.showableAll]
  | x :: xs, h => by
    simp only [itPs, Bool.and_eq_true] at h
    simp only [PyData.showableAll, Bool.and_eq_true]
    exact ⟨it_showable x h.1, its_showable xs h.2⟩
end
mutual
theorem it_leaves : ∀ d : PyData, itP d = true → d.leavesShort 13 = true
  | .int i, h => by
    simp only [itP, decide_eq_true_eq] at h
    simp only [PyData.leavesShort, decide_eq_true_eq]
    exact dig_len h
  | .tuple xs, h => by
    simp only [itP] at h
    simp only [PyData.leavesShort]
    exact its_leaves xs h
  | .none, h => by simp [itP] at h
  | .bool _, h => by simp [itP] at h
  | .str _, h => by simp [itP] at h
  | .list _, h => by simp [itP] at h
  | .dict _, h => by simp [itP] at h
theorem its_leaves : ∀ ds : List PyData, itPs ds = true → PyData.leavesShortAll 13 ds = true
  | [], _ => by simp [PyData.leavesShortAll]
  | x :: xs, h => by
    simp only [itPs, Bool.and_eq_true] at h
    simp only [PyData.leavesShortAll, Bool.and_eq_true]
    exact ⟨it_leaves x h.1, its_leaves xs h.2⟩
end
theorem signs_tupleText {k : Nat} (hk : 0x110000 ≤ k) (ts : List Str) (h : ∀ t ∈ ts, k ∉ t.cps.toList) : k ∉ (tupleText ts).cps.toList := by
  unfold tupleText
  rw [mem_cps_append, mem_cps_append, signs_lparen, mem_join, signs_tuple_end]
  rintro ((hm | (⟨t, ht, hc⟩ | ⟨hl, hm⟩)) | hm)
  · simp at hm; omega
  · exact h t ht hc
  · rw [signs_sep] at hm; simp at hm; omega
  · split at hm <;> simp at hm <;> omega
mutual
theorem it_free {k : Nat} (hk : 0x110000 ≤ k) : ∀ d : PyData, itP d = true → k ∉ d.shown.cps.toList
  | .int i, h => shown_int_free' ⟨by omega, by omega⟩ i
  | .tuple xs, h => by
    simp only [itP] at h
    simp only [PyData.shown]
    exact signs_tupleText hk _ (its_free hk xs h)
  | .none, h => by simp [itP] at h
  | .bool _, h => by simp [itP] at h
  | .str _, h => by simp [itP] at h
  | .list _, h => by simp [itP] at h
  | .dict _, h => by simp [itP] at h
theorem its_free {k : Nat} (hk : 0x110000 ≤ k) : ∀ ds : List PyData, itPs ds = true → ∀ t ∈ PyData.shownAll ds, k ∉ t.cps.toList
  | [], _ => by simp [PyData.shownAll]
  | x :: xs, h => by
    simp only [itPs, Bool.and_eq_true] at h
    simp only [PyData.shownAll, List.mem_cons]
    rintro t (rfl | ht)
    · exact it_free hk x h.1
    · exact its_free hk xs h.2 t ht
end
theorem it_strOk {d : PyData} (h : itP d = true) : PyData.strOk d.shown = true := by
  unfold PyData.strOk
  rw [← Array.all_toList, List.all_eq_true]
  intro k hk
  simp only [decide_eq_true_eq]
  exact Nat.lt_of_not_le fun z => it_free z d h hk
mutual
theorem it_nobl : ∀ d : D, itP (toP d) = true → nobl d = true
  | .int _, _ => rfl
  | .tup xs, h => by
    simp only [toP, itP] at h
    unfold nobl
    exact its_nobl xs h
  | .non, h => by simp [toP, itP] at h
  | .bl _, h => by simp [toP, itP] at h
  | .str _, h => by simp [toP, itP] at h
  | .ref _, h => by simp [toP, itP] at h
theorem its_nobl : ∀ ds : List D, itPs (toPs ds) = true → nobl.nobls ds = true
  | [], _ => rfl
  | x :: xs, h => by
    simp only [toPs, itPs, Bool.and_eq_true] at h
    unfold nobl.nobls
    rw [it_nobl x h.1, its_nobl xs h.2]; rfl
end
theorem pure__law_alike (ds : List D) (h : AH) (R : DK) (E : AXK) (q : sp__law_alike ds h R E) : t__law_alike { nx := fun _ h' => fgR R .non h', rt := fgR R } (astart N__law_alike ds) h := by
  obtain ⟨d, rfl, s, q⟩ := q
  have nb := it_nobl d s.it
  have so := it_strOk s.it
  have sh := it_showable _ s.it
  have sz : (toP d).shown.length ≤ sizeLine := PyData.shown_fits (B := 13) (by decide) (by decide) (it_leaves _ s.it) s.wt
  have it := s.it
  simp [t__law_alike, astart, N__law_alike]
  cases d with
  | int i =>
    simp only [toP, itP, decide_eq_true_eq] at it
    have e : (toP (.int i)).shown = toString i := rfl
    rw [e] at so
    refine ⟨dig_log it, dig_log it, ?_⟩
    show rEqB id (.str (Str.ofString (toString i))) (.str (Str.ofString (toString i))) h _
    rw [rEqB_str]
    refine ⟨so, so, ?_⟩
    simp
    exact fgr q
  | tup xs =>
    refine ⟨s.ok, sh, sz, s.ok, sh, sz, ?_⟩
    simp [so]
    exact rEqB_plain s.ok s.ok nb nb (fgr (by simpa using q))
  | _ => simp [toP, itP] at it
end AX

set_option Elab.async false
set_option linter.all false
set_option maxRecDepth 100000
set_option maxHeartbeats 4000000
namespace AX
open PySem PySem.Spec PyProof.Rows L2
def grow (m : Int) (how : Str) (k : List Int) : List (List Int) := (((List.range m.toNat).map fun i => ((i : Nat) : Int)).filter fun w => decide (how = "told") || decide (k = []) || decide (k.getLast?.getD 0 ≤ w)).map fun w => k ++ [w]
theorem longer_eq (ks : List (List Int)) (m : Int) (how : Str) : longer ks m how = ks.flatMap (grow m how) := rfl
theorem grow_len {m : Int} {how : Str} {k : List Int} : (grow m how k).length ≤ m.toNat := by
  unfold grow
  rw [List.length_map]
  have := List.length_filter_le (fun w => decide (how = "told") || decide (k = []) || decide (k.getLast?.getD 0 ≤ w)) ((List.range m.toNat).map fun i => ((i : Nat) : Int))
  simpa using this
theorem longer_len {ks : List (List Int)} {m : Int} {how : Str} : (longer ks m how).length ≤ ks.length * m.toNat := by
  rw [longer_eq]
  induction ks with
  | nil => simp
  | cons k ks ih =>
    rw [List.flatMap_cons, List.length_append, List.length_cons, Nat.succ_mul]
    have := grow_len (m := m) (how := how) (k := k)
    omega
theorem atI_last {k : List Int} (h : k ≠ []) : atI (k.map D.int) (-1) = some (.int (k.getLast?.getD 0)) := by
  have hl : 0 < k.length := List.length_pos_iff.mpr h
  have e : ixN (k.map D.int).length (-1) = some (k.length - 1) := by
    unfold ixN
    rw [if_neg (by omega), if_pos (by simp; omega)]
    congr 1
    simp
    omega
  unfold atI
  rw [e]
  simp only [Option.bind_some, List.getElem?_map]
  rw [List.getLast?_eq_getElem?]
  rw [List.getElem?_eq_getElem (by omega)]
  rfl
def growB (how : Str) (k : List Int) (w : Int) : Bool := decide (how = "told") || decide (k = []) || decide (k.getLast?.getD 0 ≤ w)
def growD (how : Str) (k : List Int) : D → Option D
  | .int w => if growB how k w = true then some (eI (k ++ [w])) else none
  | _ => none
theorem growD_all (m : Int) (how : Str) (k : List Int) : (rgD 0 m.toNat).filterMap (growD how k) = (grow m how k).map eI := by
  rw [rgD_eq, List.filterMap_map]
  unfold grow rgI
  generalize (List.range m.toNat).map (fun i => ((i : Nat) : Int)) = l
  induction l with
  | nil => rfl
  | cons w l ih =>
    rw [List.filterMap_cons, List.filter_cons]
    simp only [Function.comp_def] at ih ⊢
    by_cases g : growB how k w = true
    · have e : growD how k (.int w) = some (eI (k ++ [w])) := by show (if growB how k w = true then _ else _) = _; rw [if_pos g]
      rw [e]
      have g' : (decide (how = "told") || decide (k = []) || decide (k.getLast?.getD 0 ≤ w)) = true := g
      rw [if_pos g', List.map_cons, List.map_cons, ← ih]
    · have e : growD how k (.int w) = none := by show (if growB how k w = true then _ else _) = _; rw [if_neg g]
      rw [e]
      have g' : ¬ (decide (how = "told") || decide (k = []) || decide (k.getLast?.getD 0 ≤ w)) = true := g
      rw [if_neg g', ← ih]
theorem rAdd_eI {k ns : List Int} {h : AH} {R : DK} (hl : k.length + ns.length ≤ sizeLine) (q : R (eI (k ++ ns)) h) : rAdd (eI k) (.tup (ns.map D.int)) h R := by
  unfold eI rAdd
  refine ⟨by simpa using hl, ?_⟩
  rw [← List.map_append]; exact q
theorem eI_inj {a b : List Int} (h : eI a = eI b) : a = b := map_int_inj (by unfold eI at h; simpa using h)
theorem nobl_eI (a : List Int) : nobl (eI a) = true := by unfold eI nobl; rw [nobls_all, List.all_map, List.all_eq_true]; intro _ _; rfl
theorem pure__law_longer (ds : List D) (h : AH) (R : DK) (E : AXK) (q : sp__law_longer ds h R E) : t__law_longer { nx := fun _ h' => fgR R .non h', rt := fgR R } (astart N__law_longer ds) h := by
  obtain ⟨a, ks, m, how, rfl, ea, hs, m0, m1, kl, kk, q⟩ := q
  simp [t__law_longer, astart, N__law_longer]
  intro p hp
  have hpa : p ≠ a := fun e => by rw [e, ea] at hp; cases hp
  unfold aFor iSeq
  simp
  refine ⟨ks.map eI, seqOf_ref (by rw [aup_ne hpa.symm]; exact ea), fun hz => ⟨ks.map eI, seqOf_ref (by rw [aup_ne hpa.symm]; exact ea), fun i σ h' => h' = aup h p (.lst ((longer (ks.take i) m how).map eI)) ∧ ∃ u, σ = [some (.ref a), some (.int m), some (.str how), some (.ref p), u, none], ⟨rfl, _, rfl⟩, fun i σ h' W => ?_⟩⟩
  obtain ⟨rfl, u, rfl⟩ := W
  refine ⟨seqOf_ref (by rw [aup_ne hpa.symm]; exact ea), ?_⟩
  rw [List.getElem?_map]
  cases ei : ks[i]? with
  | none =>
    simp
    rw [List.take_of_length_le (List.getElem?_eq_none_iff.mp ei)]
    exact fgr (q p hp)
  | some k =>
    have hkk := kk k (List.mem_of_getElem? ei)
    simp
    unfold aFg
    simp [tyM, aup_same]
    refine aLc_pure (s := fun _ => some (rgD 0 m.toNat)) (xs := rgD 0 m.toNat) (h1 := aup h p (.lst ((longer (ks.take i) m how).map eI))) (growD how k) (fun R' hr => ?_) (fun _ _ => rfl) (fun d hd h' s K hK => ?_) fun p' hp' => ?_
    · unfold iRg1
      simp
      refine ⟨by omega, by omega, hr ?_⟩
      rw [rgD_length]
      have : 1000 ≤ sizeLine := by decide
      omega
    · rw [rgD_eq] at hd
      obtain ⟨w, hw, rfl⟩ := List.mem_map.mp hd
      have hK := hK h' (.refl _)
      have sl : 1000 ≤ sizeLine := by decide
      have hadd : ∀ h' (K' : DK), K' (eI (k ++ [w])) h' → 1 ≤ sizeLine ∧ rAdd (eI k) (D.tup [D.int w]) h' K' := fun h' K' q => ⟨by decide, rAdd_eI (ns := [w]) (by simp; omega) q⟩
      unfold lcBody
      simp [awipe, hs]
      have eK : growD how k (.int w) = if growB how k w = true then some (eI (k ++ [w])) else none := rfl
      rw [eK] at hK
      unfold growB at hK
      by_cases g1 : how = Str.ofString "told"
      · rw [if_pos g1]
        have : (decide (how = "told") || decide (k = []) || decide (k.getLast?.getD 0 ≤ w)) = true := by simp [g1]
        rw [if_pos this] at hK
        exact hadd _ _ hK
      · rw [if_neg g1]
        refine rEqB_plain (okd_eI k) rfl (nobl_eI k) rfl ?_
        by_cases g2 : k = []
        · have : (decide (how = "told") || decide (k = []) || decide (k.getLast?.getD 0 ≤ w)) = true := by simp [g2]
          rw [if_pos this] at hK
          have e : decide (eI k = .tup []) = true := by rw [g2]; rfl
          simp only [id, e, if_true]
          exact hadd _ _ hK
        · have e : decide (eI k = .tup []) = false := by
            rw [decide_eq_false_iff_not]
            intro z
            exact g2 (eI_inj (b := []) z)
          simp only [id, e, if_false, Bool.false_eq_true]
          unfold eI
          simp only [rIxT_def, atI_last g2]
          by_cases g3 : k.getLast?.getD 0 ≤ w
          · rw [if_pos g3]
            have : (decide (how = "told") || decide (k = []) || decide (k.getLast?.getD 0 ≤ w)) = true := by simp [g3]
            rw [if_pos this] at hK
            exact hadd _ _ hK
          · rw [if_neg g3]
            have g1' : ¬ how = ("told" : Str) := g1
            have : ¬ (decide (how = "told") || decide (k = []) || decide (k.getLast?.getD 0 ≤ w)) = true := by simp [g1', g2]; omega
            rw [if_neg this] at hK
            exact hK
    · have hpp : p' ≠ p := fun e => by rw [e, aup_same] at hp'; cases hp'
      have hl := longer_len (ks := ks.take i) (m := m) (how := how)
      have hi := (List.getElem?_eq_some_iff.mp ei).1
      have hg := grow_len (m := m) (how := how) (k := k)
      have ht : (ks.take i).length ≤ 10000 := by simp; omega
      have hm : m.toNat ≤ 100 := by omega
      have hmul : (ks.take i).length * m.toNat ≤ 10000 * 100 := Nat.mul_le_mul ht hm
      rw [growD_all]
      refine ⟨(longer (ks.take i) m how).map eI, (grow m how k).map eI, by rw [aup_ne hpp.symm, aup_same], aup_same, ?_, aup (aup h p (.lst ((longer (ks.take i) m how).map eI))) p (.lst ((longer (ks.take (i + 1)) m how).map eI)), ?_, Fgt.of ⟨by rw [aup_aup], _, rfl⟩⟩
      · rw [List.length_map, List.length_map]
        have e : sizeLine = 16777216 := by decide
        omega
      · have e : longer (ks.take (i + 1)) m how = longer (ks.take i) m how ++ grow m how k := by
          rw [longer_eq, longer_eq, List.take_add_one, ei]
          simp
        rw [e, List.map_append]
        intro c o hc
        by_cases hcp : c = p
        · rw [hcp, aup_same] at hc; rw [hcp, aup_same]; exact hc
        · rw [aup_ne hcp] at hc
          rw [aup_ne hcp]
          exact Sub.new hp' _ _ hc
end AX

set_option Elab.async false
set_option linter.all false
set_option maxRecDepth 100000
set_option maxHeartbeats 4000000
namespace AX
open PySem PySem.Spec PyProof.Rows L2
inductive Outs (Ok : D → Option D → Prop) : List D → List D → Prop
  | nil : Outs Ok [] []
  | some {xs ys : List D} {d y : D} : Outs Ok xs ys → Ok d (.some y) → Outs Ok (xs ++ [d]) (ys ++ [y])
  | none {xs ys : List D} {d : D} : Outs Ok xs ys → Ok d .none → Outs Ok (xs ++ [d]) ys
theorem Outs.len {Ok : D → Option D → Prop} {xs ys : List D} (o : Outs Ok xs ys) : ys.length ≤ xs.length := by
  induction o with
  | nil => exact Nat.le_refl _
  | some _ _ ih => simp; exact ih
  | none _ _ ih => simp; omega
section
variable {ti : AI} {g : AG} {tt : AT} {te : AE} {vs : List Nat} {σ : ASt} {h : AH} {R : DK} {s : AItems} {xs : List D} {b : Addr}
theorem lcBag (Ok : D → Option D → Prop) (bg : Bag h b) (hq : ∀ R' : AItems → AH → Prop, (xs.length ≤ sizeLine → R' s h) → ti σ h R') (hst : ∀ h', Fr1 b h h' → s h' = some xs)
    (step : ∀ d ∈ xs, ∀ h', Fr1 b h h' → Bag h' b → ∀ K : Option D → AH → Prop, (∀ o h'', Ok d o → Fr1 b h' h'' → K o h'') → lcBody g tt te (awipe σ vs) d h' K)
    (q : ∀ ys p h', Outs Ok xs ys → Fr1 b h h' → Bag h' b → h p = none → h' p = some (.lst ys) → R (.ref p) h') : aLc ti g tt te vs σ h R := by
  refine hq _ fun hz => ⟨xs, hst h .refl, fun p hp => ?_⟩
  have pb := bg.not hp
  refine ⟨fun i h' => Fr1 b h h' ∧ ∃ ys, Outs Ok (xs.take i) ys ∧ h' p = some (.lst ys), ⟨Fr1.refl.new hp pb, [], .nil, aup_same⟩, fun i h' ⟨f, ys, o, ep⟩ => ⟨hst h' f, ?_⟩⟩
  cases q2 : xs[i]? with
  | none =>
    rw [List.take_of_length_le (List.getElem?_eq_none_iff.mp q2)] at o
    exact q ys p h' o f (f.bag bg) hp ep
  | some d =>
    have hi := (List.getElem?_eq_some_iff.mp q2).1
    have ht : xs.take (i + 1) = xs.take i ++ [d] := by rw [List.take_add_one, q2]; rfl
    refine step d (List.mem_of_getElem? q2) h' f (f.bag bg) _ fun o' h'' ok f2 => ?_
    have ep2 : h'' p = some (.lst ys) := f2.1 p _ pb ep
    have hl := o.len
    cases o' with
    | none => exact ⟨h'', .refl _, f.trans f2, ys, by rw [ht]; exact .none o ok, ep2⟩
    | some y =>
      refine ⟨ys, _, ep2, ?_, .refl _, (f.trans f2).new hp pb, _, by rw [ht]; exact .some o ok, aup_same⟩
      simp at hl; omega
theorem tupBag (Ok : D → Option D → Prop) (bg : Bag h b) (hq : ∀ R' : AItems → AH → Prop, (xs.length ≤ sizeLine → R' s h) → ti σ h R') (hst : ∀ h', Fr1 b h h' → s h' = some xs)
    (step : ∀ d ∈ xs, ∀ h', Fr1 b h h' → Bag h' b → ∀ K : Option D → AH → Prop, (∀ o h'', Ok d o → Fr1 b h' h'' → K o h'') → lcBody g tt te (awipe σ vs) d h' K)
    (q : ∀ ys h', Outs Ok xs ys → Fr1 b h h' → Bag h' b → R (.tup ys) h') : aFg (aCB cTuple (aCons (aLc ti g tt te vs) aNil)) σ h R := by
  show aLc ti g tt te vs σ h (fun d h1 => cTuple [d] h1 (fun r h2 => ∃ h0, Sub h0 h2 ∧ R r h0))
  exact lcBag Ok bg hq hst step fun ys p h' o f bg' hp ep => ⟨ys, seqOf_ref ep, h', .refl _, q ys h' o f bg'⟩
end
theorem lcB_take {b : Addr} {i : Nat} {e : AE} {σ : ASt} {h : AH} {m : Int} {R : DK} (e0 : σ[i]? = some (some (.ref b))) (e1 : ∀ K : DK, K (.int m) h → e σ h K) (m0 : 0 < m) (m1 : m < 1073741824) (bg : Bag h b) (q : ∀ v h', 0 ≤ v → v < m → Fr1 b h h' → R (.int v) h') : aCall sp__law_take AX0 (aCons (aVar i) (aCons e aNil)) σ h R := by
  simp only [aCall_def, aCons_def, aVar_def, e0, aNil_def]
  exact e1 _ ⟨b, m, rfl, m0, m1, bg, fun v h' v0 v1 _ f => q v h' v0 v1 f⟩
/-- those of xs that were kept -/
def Kept (d : D) (o : Option D) : Prop := o = none ∨ o = some d
theorem outs_kept {xs ys : List D} (o : Outs Kept xs ys) : ys.Sublist xs := by
  induction o with
  | nil => exact .slnil
  | some _ k ih =>
    rcases k with k | k
    · cases k
    · cases k; exact ih.append (List.Sublist.refl _)
  | none _ _ ih => exact ih.trans (List.sublist_append_left _ _)
theorem sub_map {α : Type} {f : α → D} {ys : List D} {xs : List α} (h : ys.Sublist (xs.map f)) : ∃ zs : List α, zs.Sublist xs ∧ ys = zs.map f := by
  obtain ⟨zs, h1, h2⟩ := List.sublist_map_iff.mp h
  exact ⟨zs, h1, h2⟩
theorem pure__law_wide_functions (ds : List D) (h : AH) (R : DK) (E : AXK) (q : sp__law_wide_functions ds h R E) : t__law_wide_functions { nx := fun _ h' => fgR R .non h', rt := fgR R } (astart N__law_wide_functions ds) h := by
  obtain ⟨b, rfl, bg, q⟩ := q
  simp [t__law_wide_functions, astart, N__law_wide_functions]
  refine ⟨by decide, fun p hp => ?_⟩
  have pb := bg.not hp
  unfold aFg
  simp only [aCB_def, aCons_def, aOp_def, aNil_def]
  have f0 : Fr1 b h (aup h p (.lst ([fF, gF, hF].map eFn))) := Fr1.refl.new hp pb
  refine lcBag (b := b) (xs := [fF, gF, hF].map eFn) (s := fun h => seqOf h (.ref p)) Kept (f0.bag bg) (fun R' hr => ?_) (fun h' f => seqOf_ref (f.1 p _ pb aup_same)) (fun d hd h' f bg' K hK => ?_) fun ys p2 h' o f bg' hp2 ep2 => ?_
  · unfold iSeq
    simp
    exact ⟨_, seqOf_ref aup_same, fun hz => hr (by simpa using hz)⟩
  · unfold lcBody
    simp only [aName_def, aTest_def, aOp_def, aC_def]
    refine lcB_take rfl (fun K q => q) (by decide) (by decide) bg' fun v h'' v0 v1 f2 => ?_
    simp [awipe]
    by_cases g : v = 0
    · rw [if_pos g]; exact hK _ _ (.inr rfl) f2
    · rw [if_neg g]; exact hK _ _ (.inl rfl) f2
  · obtain ⟨zs, z1, rfl⟩ := sub_map (outs_kept o)
    simp
    refine ⟨by decide, by decide, fun p3 hp3 => ?_⟩
    have h32 : p3 ≠ p2 := fun e => by rw [e, ep2] at hp3; cases hp3
    unfold rAdd
    refine ⟨zs.map eFn, [eFn kF], by rw [aup_ne h32.symm, ep2], aup_same, ?_, fun p4 hp4 => ?_⟩
    · have := z1.length_le
      have e : sizeLine = 16777216 := by decide
      simp at this ⊢
      try omega
    · refine ⟨_, seqOf_ref aup_same, h', (Sub.new hp3).trans (.new hp4), fgr ?_⟩
      have : (zs ++ [kF]).map eFn = zs.map eFn ++ [eFn kF] := by simp
      rw [← this]
      exact q (zs ++ [kF]) h' ⟨zs, z1, rfl⟩ bg' (f0.trans f)
theorem cut_upto {xs : List D} {v c : Int} (v0 : 0 ≤ v) (c0 : 0 ≤ c) : cutD xs none (some (c + v)) = xs.take (c + v).toNat := by
  unfold cutD
  rw [HT.sIx_none]
  have : HT.sIx xs.length xs.length (some (c + v)) = min (c + v).toNat xs.length := by
    have := HT.sIx_nat xs.length xs.length (c + v).toNat
    rwa [Int.toNat_of_nonneg (by omega)] at this
  rw [this]
  simp
theorem pure__law_wide_frame (ds : List D) (h : AH) (R : DK) (E : AXK) (q : sp__law_wide_frame ds h R E) : t__law_wide_frame { nx := fun _ h' => fgR R .non h', rt := fgR R } (astart N__law_wide_frame ds) h := by
  obtain ⟨b, rfl, bg, q⟩ := q
  unfold t__law_wide_frame
  simp only [aSeq_def]
  unfold aPar
  simp [astart, N__law_wide_frame]
  refine ⟨by decide, b, 3, rfl, by decide, by decide, bg, fun v h1 v0 v1 bg1 f1 => ?_⟩
  simp only [rAdd, rSl]
  refine ⟨by decide, b, 3, rfl, by decide, by decide, bg1, fun v' h2 v0' v1' bg2 f2 => ?_⟩
  simp only [rAdd, rSl, cut_upto (c := 1) v0 (by decide), cut_upto (c := 2) v0' (by decide)]
  have eL : (["nil", "yes", "zed"] : List Str).map D.str = [D.str (Str.ofString "nil"), D.str (Str.ofString "yes"), D.str (Str.ofString "zed")] := rfl
  have eV : (["a", "b", "c", "d"] : List Str).map D.str = [D.str (Str.ofString "a"), D.str (Str.ofString "b"), D.str (Str.ofString "c"), D.str (Str.ofString "d")] := rfl
  rw [← eL, ← eV, ← List.map_take, ← List.map_take]
  refine tupBag (b := b) (xs := ((["a", "b", "c", "d"] : List Str).take (2 + v').toNat).map D.str) (s := fun h => seqOf h (eS ((["a", "b", "c", "d"] : List Str).take (2 + v').toNat))) Kept bg2 (fun R' hr => ?_) (fun h' f => rfl) (fun d hd h' f bg' K hK => ?_) fun ys h' o f3 bg3 => ?_
  · unfold iSeq
    simp only [aVar_def, List.getElem?_cons_succ, List.getElem?_cons_zero]
    exact ⟨_, rfl, fun hz => hr hz⟩
  · unfold lcBody
    simp only [aName_def, aTest_def, aOp_def, aC_def]
    refine lcB_take rfl (fun K q => q) (by decide) (by decide) bg' fun v h'' v0 v1 f2 => ?_
    simp [awipe]
    by_cases g : v = 0
    · rw [if_pos g]; exact hK _ _ (.inr rfl) f2
    · rw [if_neg g]; exact hK _ _ (.inl rfl) f2
  · obtain ⟨zs, z1, rfl⟩ := sub_map (outs_kept o)
    refine ⟨b, rfl, bg3, fun fs h4 fo bg4 f4 => ⟨by decide, fgr ?_⟩⟩
    exact q ⟨fs, (["nil", "yes", "zed"] : List Str).take (1 + v).toNat, (["a", "b", "c", "d"] : List Str).take (2 + v').toNat, zs⟩ h4 ⟨fo, ⟨(1 + v).toNat, by omega, by omega, rfl⟩, ⟨(2 + v').toNat, by omega, by omega, rfl⟩, z1⟩ bg4 (((f1.trans f2).trans f3).trans f4)
end AX

set_option Elab.async false
set_option linter.all false
set_option maxRecDepth 100000
set_option maxHeartbeats 4000000
namespace AX
open PySem PySem.Spec PyProof.Rows L2
theorem tyM_lst {h : AH} {p : Addr} {xs : List D} (e : h p = some (.lst xs)) : tyM h (.ref p) = some "list" := by simp [tyM, e]
theorem cDict_get {h : AH} {R : DK} {x k z : D} {xs : List D} {ps : List (D × D)} (hx : seqOf h x = some xs) (hp : pairsD xs = some ps) (ak : AllKeys ps) (kk : ∃ j, KeyOf k j) (q : R ((valD (putsD [] ps) k).getD z) h) :
    cDict [x] h fun x h1 => tyM h1 x = some "dict" ∧ mGet x [k, z] h1 fun d h1 => ∃ h0, Sub h0 h1 ∧ R d h0 := by
  refine .inr ⟨xs, ps, hx, hp, ak, fun p hp => ⟨by simp [tyM, aup_same], ?_⟩⟩
  unfold mGet gotD
  simp only [aup_same]
  exact ⟨kk, h, .new hp, q⟩
theorem pure__law_applied (ds : List D) (h : AH) (R : DK) (E : AXK) (q : sp__law_applied ds h R E) : t__law_applied { nx := fun _ h' => fgR R .non h', rt := fgR R } (astart N__law_applied ds) h := by
  obtain ⟨P, w, f, x, ws, i, t, rfl, ex, ok, ef, first, et, q⟩ := q
  unfold t__law_applied
  simp only [aSeq_def, aSet_def]
  have e1 : atI (P.fs.map eFn) (i : Int) = some (eFn f) := atI_at (by rw [List.getElem?_map, ef]; rfl)
  have e2 : atI (w.tabs.map eTab) (i : Int) = some (eTab t) := atI_at (by rw [List.getElem?_map, et]; rfl)
  have okf : PyData.strOk f.f = true := by
    have := List.all_eq_true.mp ok f (List.mem_of_getElem? ef)
    simp only [Bool.and_eq_true] at this; exact this.1
  have okw : PyData.strOk f.how = true := by
    have := List.all_eq_true.mp ok f (List.mem_of_getElem? ef)
    simp only [Bool.and_eq_true] at this; exact this.2
  unfold aFg
  simp only [aM_def]
  refine aLc_pure (s := fun h => seqOf h (.tup (P.fs.map eFn))) (xs := P.fs.map eFn) (h1 := h) (fun d => some (.str (dFn d).f)) (fun R' hr => ?_) (fun h' s => rfl) (fun d hd h' s K hK => ?_) fun p hp => ?_
  · unfold iSeq
    simp [astart, N__law_applied, eP]
    exact ⟨_, rfl, fun hz => hr (by simpa using hz)⟩
  · obtain ⟨g, hg, rfl⟩ := List.mem_map.mp hd
    unfold lcBody
    simp [awipe, astart, N__law_applied, eFn]
    have := hK h' (.refl _)
    simpa using this
  · have em : (P.fs.map eFn).filterMap (fun d => some (D.str (dFn d).f)) = P.fs.map fun g => D.str g.f := by
      rw [List.filterMap_map]
      simp [Function.comp_def]
    rw [em]
    simp [tyM_lst aup_same, astart, N__law_applied]
    refine ⟨P.fs.map fun g => D.str g.f, i, .str f.f, aup_same, ?_, ?_, by rw [List.getElem?_map, ef]; rfl, by simp, fun m z' hm hz => ?_, h, .new hp, ?_⟩
    · rw [List.all_map, List.all_eq_true]
      intro g hg
      have := List.all_eq_true.mp ok g hg
      simp only [Bool.and_eq_true] at this; exact this.1
    · exact okf
    · rw [List.getElem?_map] at hz
      cases eg : P.fs[m]? with
      | none => rw [eg] at hz; cases hz
      | some g =>
        rw [eg] at hz; cases hz
        have := first m g hm eg
        simp [this]
    · simp only [eP, eW, rIxT_def, atI_lit0]
      simp only [e1]
      have fin : ∀ k, keyD f ws = k → atI [D.int w.many, eI w.letters, eI w.inputs, eI w.anys, D.tup (List.map eTab w.tabs)] 4 = some (D.tup (List.map eTab w.tabs)) ∧ cDict [.tup (t.1.map eRow)] h fun x h1 => tyM h1 x = some "dict" ∧ mGet x [k, .int t.2] h1 fun d h1 => ∃ h0, Sub h0 h1 ∧ fgR R d h0 := fun k ek => by
        refine ⟨atI_lit4, cDict_get rfl (pairsD_rows _) (allKeys_rows _) ?_ (fgr ?_)⟩
        · obtain ⟨ms, e⟩ := keyD_eI f ws; rw [← ek, e]; exact keyOf_eI ms
        · rw [← ek]; exact q
      have fw : f.how = f.how := rfl
      simp [eFn]
      refine ⟨okw, ?_⟩
      by_cases g : f.how = Str.ofString "either"
      · rw [if_pos g]
        obtain ⟨f1, f2⟩ := fin _ (by unfold keyD; rw [if_pos g])
        refine ⟨ws.map D.int, ex, sortsInts ws, fun p3 hp3 => ⟨_, seqOf_ref aup_same, h, .new hp3, ?_⟩⟩
        simp [e2, eTab]
        exact f2
      · rw [if_neg g]
        obtain ⟨f1, f2⟩ := fin _ (by unfold keyD; rw [if_neg g])
        refine ⟨_, ex, h, .refl _, ?_⟩
        simp [e2, eTab]
        exact f2
theorem pure__law_called (ds : List D) (h : AH) (R : DK) (E : AXK) (q : sp__law_called ds h R E) : t__law_called { nx := fun _ h' => fgR R .non h', rt := fgR R } (astart N__law_called ds) h := by
  obtain ⟨P, w, o, rfl, ok, wi, wz, q⟩ := q
  simp [t__law_called, astart, N__law_called]
  intro p hp
  unfold aFor iZip2
  simp [eP, eW]
  refine ⟨rfl, P.fs.map eFn, rfl, ⟨_, rfl⟩, fun hz => ⟨zipD (P.fs.map eFn) (w.tabs.map eTab), by simp [zipOf, seqOf], fun i σ h' => h' = aup h p (.lst ((List.zipWith (fun f t => otherT f o t) P.fs w.tabs).take i)) ∧ ∃ a b c, σ = [some (eP P), some (eW w), some (eI o), some (D.ref p), a, b, c, none, none, none, none], ⟨by simp, _, _, _, rfl⟩, fun i σ h' W => ?_⟩⟩
  obtain ⟨rfl, a, b, c, rfl⟩ := W
  refine ⟨by simp [zipOf, seqOf], ?_⟩
  have e1 : (zipD (P.fs.map eFn) (w.tabs.map eTab))[i]? = (List.zipWith (fun f t => D.tup [eFn f, eTab t]) P.fs w.tabs)[i]? := by
    unfold zipD; rw [List.zipWith_map]
  rw [e1, List.getElem?_zipWith']
  have sl : sizeLine = 16777216 := by decide
  have fin : ∀ a b c : Option D, P.fs.length ≤ i ∨ w.tabs.length ≤ i → aFg
    (aOp rAdd
      (aFg
        (aOp rAdd (aTup (aCons (aOp rIx (aVar 1) (aC (D.int 0))) aNil))
          (aFg
            (aCB cTuple
              (aCons
                (aLc (iSeq (aSl (aVar 1) (aPart (aC (D.int 1))) (aPart (aC (D.int 4))))) (aName 10) aYes
                  (aFg (aCB cTuple (aCons (aLc (iSeq (aVar 10)) (aName 7) aYes (aOp rIx (aVar 2) (aVar 7)) [7]) aNil)))
                  [10])
                aNil)))))
      (aTup (aCons (aCB cTuple (aCons (aVar 3) aNil)) aNil)))
    [some (eP P), some (eW w), some (eI o), some (D.ref p), a, b, c, none, none, none, none]
    (aup h p (O.lst (List.take i (List.zipWith (fun f t => otherT f o t) P.fs w.tabs)))) (fgR R) := fun a b c hi => by
    have et : List.take i (List.zipWith (fun f t => otherT f o t) P.fs w.tabs) = List.zipWith (fun f t => otherT f o t) P.fs w.tabs := List.take_of_length_le (by simp; omega)
    rw [et]
    have cut : ∀ a b c d e : D, cutD [a, b, c, d, e] (some 1) (some 4) = [b, c, d] := fun _ _ _ _ _ => rfl
    show aFg _ _ _ fun x h1 => aTup _ _ h1 fun y h2 => rAdd x y h2 fun d h1 => ∃ h0, Sub h0 h1 ∧ fgR R d h0
    show aTup _ _ _ fun x h1 => aFg _ _ h1 fun y h2 => rAdd x y h2 fun d h1 => ∃ h0, Sub h0 h1 ∧ aTup _ _ h0 fun y h2 => rAdd d y h2 fun d h1 => ∃ h0, Sub h0 h1 ∧ fgR R d h0
    simp [eW]
    refine ⟨by decide, ?_⟩
    refine tupMap (gT o) (x := .tup [eI w.letters, eI w.inputs, eI w.anys]) (xs := [eI w.letters, eI w.inputs, eI w.anys]) (fun R z => by simp [rSl, cut]; exact z) rfl (fun d hd h' s K hK => ?_) fun hl => ?_
    · have hd' : ∃ ns : List Int, d = eI ns ∧ ∀ k ∈ ns, Within o.length k := by
        simp at hd
        rcases hd with rfl | rfl | rfl
        · exact ⟨_, rfl, wi.l⟩
        · exact ⟨_, rfl, wi.i⟩
        · exact ⟨_, rfl, wi.a⟩
      obtain ⟨ns, rfl, wn⟩ := hd'
      refine tupMap (gO o) (x := eI ns) (xs := ns.map D.int) (fun R z => by simp [awipe]; exact z) rfl (fun d hd h' s K hK => ?_) fun hl => ?_
      · exact atO_step wn hd (by simp [awipe]) (by simp [awipe]) (hK _ (.refl _))
      · rw [map_gO]
        have := hK _ (.refl _)
        rwa [gT_eI] at this
    · simp only [List.map_cons, List.map_nil, gT_eI, rAdd]
      refine ⟨by simp [sl], _, .refl _, _, seqOf_ref aup_same, by decide, by simp [sl], h, .new hp, fgr q⟩
  cases ef : P.fs[i]? with
  | none =>
    simp
    exact fin a b c (.inl (List.getElem?_eq_none_iff.mp ef))
  | some f =>
    cases et : w.tabs[i]? with
    | none =>
      simp
      exact fin a b c (.inr (List.getElem?_eq_none_iff.mp et))
    | some t =>
      simp [eTab]
      have wt := wi.t t (List.mem_of_getElem? et)
      have hft := ok f (List.mem_of_getElem? ef)
      have hlen : (List.zipWith (fun f t => otherT f o t) P.fs w.tabs)[i]? = some (otherT f o t) := by rw [List.getElem?_zipWith', ef, et]; rfl
      have hi := (List.getElem?_eq_some_iff.mp ef).1
      refine aLc_pure (s := fun h => seqOf h (.tup (t.1.map eRow))) (xs := t.1.map eRow) (h1 := aup h p (O.lst (List.take i (List.zipWith (fun f t => otherT f o t) P.fs w.tabs)))) (fun d => some (eRow ((dRow d).1.map (atO o), atO o (dRow d).2))) (fun R' hr => ?_) (fun h' s => rfl) (fun d hd h' s K hK => ?_) fun p1 hp1 => ?_
      · unfold iSeq
        simp
        exact ⟨_, rfl, fun hz => hr (by simpa using hz)⟩
      · obtain ⟨r, hr, rfl⟩ := List.mem_map.mp hd
        have hw := wt.1 r hr
        unfold lcBody
        simp [awipe, eRow]
        refine tupMap (gO o) (x := eI r.1) (xs := r.1.map D.int) (fun R z => by simp; exact z) rfl (fun d hd h' s K hK => ?_) fun hl => ?_
        · exact atO_step hw.1 hd (by simp [awipe]) (by simp [awipe]) (hK _ (.refl _))
        · rw [map_gO]
          unfold eI
          simp [atI_o hw.2]
          refine ⟨by decide, ?_⟩
          have := hK h' (.refl _)
          simp only [dRow_eRow] at this
          simpa [eRow, eI] using this
      · have em1 : (t.1.map eRow).filterMap (fun d => some (eRow ((dRow d).1.map (atO o), atO o (dRow d).2))) = t.1.map fun r => eRow (r.1.map (atO o), atO o r.2) := by
          rw [List.filterMap_map]
          simp [Function.comp_def]
        rw [em1]
        refine aLc_pure (s := fun h => seqOf h (.ref p1)) (xs := t.1.map fun r => eRow (r.1.map (atO o), atO o r.2)) (h1 := aup (aup h p (O.lst (List.take i (List.zipWith (fun f t => otherT f o t) P.fs w.tabs)))) p1 (O.lst (t.1.map fun r => eRow (r.1.map (atO o), atO o r.2)))) (fun d => some (.tup [keyD f (dRow d).1, .int (dRow d).2])) (fun R' hr => ?_) (fun h' s => seqOf_sub s (seqOf_ref aup_same)) (fun d hd h' s K hK => ?_) fun p2 hp2 => ?_
        · unfold iSeq
          simp
          exact ⟨_, seqOf_ref aup_same, fun hz => hr (by simpa using hz)⟩
        · obtain ⟨r, hr, rfl⟩ := List.mem_map.mp hd
          have hK := hK h' (.refl _)
          simp only [dRow_eRow] at hK
          unfold lcBody
          simp [awipe, eRow, eFn]
          refine ⟨hft.2.1, ?_⟩
          unfold keyD at hK
          by_cases g : f.how = Str.ofString "either"
          · rw [if_pos g] at hK ⊢
            refine tSorted (x := eI (r.1.map (atO o))) (xs := (r.1.map (atO o)).map D.int) (fun R r => by simpa using r) rfl (sortsInts _) ?_
            exact ⟨by decide, hK⟩
          · rw [if_neg g] at hK ⊢
            exact ⟨by decide, hK⟩
        · have em2 : (t.1.map fun r => eRow (r.1.map (atO o), atO o r.2)).filterMap (fun d => some (D.tup [keyD f (dRow d).1, .int (dRow d).2])) = t.1.map (otherRow f o) := by
            rw [List.filterMap_map]
            simp [Function.comp_def]
            intro a b _; rfl
          rw [em2]
          have n1 : p1 ≠ p := fun e => by rw [e, aup_same] at hp1; cases hp1
          have n2 : p2 ≠ p := fun e => by rw [e, aup_ne n1.symm, aup_same] at hp2; cases hp2
          have ep : (aup (aup (aup h p (O.lst (List.take i (List.zipWith (fun f t => otherT f o t) P.fs w.tabs)))) p1 (O.lst (t.1.map fun r => eRow (r.1.map (atO o), atO o r.2)))) p2 (O.lst (t.1.map (otherRow f o)))) p = some (.lst (List.take i (List.zipWith (fun f t => otherT f o t) P.fs w.tabs))) := by
            rw [aup_ne n2.symm, aup_ne n1.symm, aup_same]
          refine appG rfl ep ?_
          have hzz : (List.take i (List.zipWith (fun f t => otherT f o t) P.fs w.tabs)).length < sizeLine := by
            have : (List.take i (List.zipWith (fun f t => otherT f o t) P.fs w.tabs)).length ≤ i := List.length_take_le i _
            simp at hz
            omega
          simp only [aTup_def, aCons_def, aNil_def]
          have so : SortsD (t.1.map (otherRow f o)) := by
            obtain ⟨rs', e⟩ := otherRows_eRows f o t.1
            rw [e]; exact sortsRows _
          refine tSorted (x := .ref p2) (xs := t.1.map (otherRow f o)) (fun R r => by simpa using r) (seqOf_ref aup_same) so ?_
          unfold eI
          simp [atI_o wt.2]
          refine ⟨by decide, mApp ep hzz ⟨_, aup h p (.lst (List.take (i + 1) (List.zipWith (fun f t => otherT f o t) P.fs w.tabs))), SubS.refl _, ?_, rfl, _, _, _, rfl⟩⟩
          rw [List.take_add_one, hlen]
          intro c u hc
          by_cases hcp : c = p
          · subst hcp
            rw [aup_same] at hc ⊢
            exact hc
          · rw [aup_ne hcp] at hc
            rw [aup_ne hcp, aup_ne (fun e => ?_), aup_ne (fun e => ?_), aup_ne hcp]
            · exact hc
            · rw [e] at hc; rw [aup_ne n1] at hp1; rw [hp1] at hc; cases hc
            · rw [e] at hc
              by_cases h21 : p2 = p1
              · rw [h21, aup_same] at hp2; cases hp2
              · rw [aup_ne h21, aup_ne n2] at hp2; rw [hp2] at hc; cases hc
end AX

set_option Elab.async false
set_option linter.all false
set_option maxRecDepth 100000
set_option maxHeartbeats 4000000
namespace AX
open PySem PySem.Spec PyProof.Rows L2
theorem lexLt_lt : ∀ a b : List Int, HT.lexLt a b = decide (a < b)
  | [], [] => by simp [HT.lexLt]
  | [], _ :: _ => by simp [HT.lexLt]
  | _ :: _, [] => by simp [HT.lexLt]
  | x :: xs, y :: ys => by
    rw [HT.lexLt_cons, lexLt_lt xs ys]
    by_cases h : x = y
    · rw [if_pos h]; simp [h, List.cons_lt_cons_iff]
    · rw [if_neg h]; simp [h, List.cons_lt_cons_iff]
theorem dataLe_eI (a b : List Int) : PySem.W.dataLe false toP (eI a) (eI b) = !decide (b < a) := by
  show (!PySem.W.dataLt (toP (eI b)) (toP (eI a))) = _
  rw [toP_eI, toP_eI]
  have : PySem.W.dataLt (.tuple (b.map .int)) (.tuple (a.map .int)) = PySem.W.rowLt (b.map .int) (a.map .int) := rfl
  rw [this, PySem.W.dataLt_ints]
theorem srt_keys {ks : List (List Int)} (h : ks.Pairwise fun a b => HT.lexLt a b = true) : srt (ks.map eI) = ks.map eI := by
  unfold srt
  refine List.mergeSort_of_pairwise ?_
  rw [List.pairwise_map]
  refine h.imp fun {a b} hab => ?_
  rw [dataLe_eI]
  rw [lexLt_lt] at hab
  have hab : a < b := by simpa using hab
  simp
  exact List.le_of_lt hab
theorem rising_of : ∀ {rs : List Row}, (rs.map (·.1)).Pairwise (fun a b => HT.lexLt a b = true) → rising rs = true
  | [], _ => rfl
  | [_], _ => rfl
  | a :: b :: r, h => by
    rw [List.map_cons, List.pairwise_cons] at h
    have ih := rising_of (rs := b :: r) h.2
    rw [rising, ih, h.1 b.1 (by simp)]; rfl
structure KOk (m : Int) (how : Str) (j : Nat) (ks : List (List Int)) : Prop where
  len : ∀ k ∈ ks, k.length = j
  bnd : ∀ k ∈ ks, ∀ x ∈ k, 0 ≤ x ∧ x < m
  mono : how ≠ "told" → ∀ k ∈ ks, k.Pairwise (· ≤ ·)
  up : ks.Pairwise fun a b => HT.lexLt a b = true
  cnt : ks.length ≤ m.toNat ^ j
theorem lexLt_app : ∀ {a b : List Int}, a.length = b.length → ∀ (x y : List Int), HT.lexLt a b = true → HT.lexLt (a ++ x) (b ++ y) = true
  | [], [], _, _, _, h => by simp [HT.lexLt] at h
  | [], _ :: _, hl, _, _, _ => by simp at hl
  | _ :: _, [], hl, _, _, _ => by simp at hl
  | u :: a, v :: b, hl, x, y, h => by
    rw [HT.lexLt_cons] at h
    rw [List.cons_append, List.cons_append, HT.lexLt_cons]
    by_cases e : u = v
    · rw [if_pos e] at h ⊢
      exact lexLt_app (by simpa using hl) x y h
    · rw [if_neg e] at h ⊢; exact h
theorem lexLt_same : ∀ (a : List Int) (x y : Int), x < y → HT.lexLt (a ++ [x]) (a ++ [y]) = true
  | [], x, y, h => by
    show HT.lexLt [x] [y] = true
    rw [HT.lexLt_cons, if_neg (by omega)]; simpa using h
  | u :: a, x, y, h => by
    rw [List.cons_append, List.cons_append, HT.lexLt_cons, if_pos rfl]
    exact lexLt_same a x y h
theorem grow_mem {m : Int} {how : Str} {k z : List Int} (h : z ∈ grow m how k) : ∃ w, z = k ++ [w] ∧ 0 ≤ w ∧ w < m ∧ (how = "told" ∨ k = [] ∨ k.getLast?.getD 0 ≤ w) := by
  unfold grow at h
  obtain ⟨w, hw, rfl⟩ := List.mem_map.mp h
  obtain ⟨h1, h2⟩ := List.mem_filter.mp hw
  obtain ⟨i, hi, rfl⟩ := List.mem_map.mp h1
  have := List.mem_range.mp hi
  refine ⟨_, rfl, by omega, by omega, ?_⟩
  simpa [or_assoc] using h2
theorem KOk.zero (m : Int) (how : Str) : KOk m how 0 [[]] := ⟨by simp, by simp, by simp, by simp, by simp⟩
theorem mono_snoc {k : List Int} {w : Int} (h : k.Pairwise (· ≤ ·)) (hw : k = [] ∨ k.getLast?.getD 0 ≤ w) : (k ++ [w]).Pairwise (· ≤ ·) := by
  rw [List.pairwise_append]
  refine ⟨h, by simp, fun a ha b hb => ?_⟩
  simp at hb
  subst hb
  rcases hw with rfl | hw
  · cases ha
  · have hne : k ≠ [] := List.ne_nil_of_mem ha
    have : a ≤ k.getLast hne := by
      obtain ⟨i, hi, rfl⟩ := List.getElem_of_mem ha
      rw [List.getLast_eq_getElem]
      by_cases e : i = k.length - 1
      · subst e; exact Int.le_refl _
      · exact List.pairwise_iff_getElem.mp h i (k.length - 1) hi (by omega) (by omega)
    rw [List.getLast?_eq_some_getLast hne] at hw
    simp at hw
    omega
theorem KOk.succ {m : Int} {how : Str} {j : Nat} {ks : List (List Int)} (h : KOk m how j ks) : KOk m how (j + 1) (longer ks m how) := by
  rw [longer_eq]
  have mem : ∀ z ∈ ks.flatMap (grow m how), ∃ k ∈ ks, z ∈ grow m how k := fun z hz => by simpa using List.mem_flatMap.mp hz
  refine ⟨fun z hz => ?_, fun z hz x hx => ?_, fun hh z hz => ?_, ?_, ?_⟩
  · obtain ⟨k, hk, hz⟩ := mem z hz
    obtain ⟨w, rfl, _⟩ := grow_mem hz
    simp [h.len k hk]
  · obtain ⟨k, hk, hz⟩ := mem z hz
    obtain ⟨w, rfl, w0, w1, _⟩ := grow_mem hz
    rcases List.mem_append.mp hx with hx | hx
    · exact h.bnd k hk x hx
    · simp at hx; subst hx; exact ⟨w0, w1⟩
  · obtain ⟨k, hk, hz⟩ := mem z hz
    obtain ⟨w, rfl, w0, w1, hw⟩ := grow_mem hz
    exact mono_snoc (h.mono hh k hk) (hw.resolve_left hh)
  · rw [List.pairwise_flatMap]
    refine ⟨fun k hk => ?_, ?_⟩
    · unfold grow
      rw [List.pairwise_map]
      refine List.Pairwise.imp (R := fun a b => a < b) (fun {a b} hab => lexLt_same k a b hab) ?_
      refine List.Pairwise.filter _ ?_
      rw [List.pairwise_map]
      exact List.pairwise_lt_range.imp fun h => by omega
    · refine List.Pairwise.imp_of_mem ?_ h.up
      intro a b ha hb hab x hx y hy
      obtain ⟨w, rfl, _⟩ := grow_mem hx
      obtain ⟨w', rfl, _⟩ := grow_mem hy
      exact lexLt_app (by rw [h.len a ha, h.len b hb]) _ _ hab
  · have := longer_len (ks := ks) (m := m) (how := how)
    rw [longer_eq] at this
    refine Nat.le_trans this ?_
    rw [Nat.pow_succ]
    exact Nat.mul_le_mul h.cnt (Nat.le_refl _)
def keysN (m : Int) (how : Str) : Nat → List (List Int)
  | 0 => [[]]
  | j + 1 => longer (keysN m how j) m how
theorem keysN_ok (m : Int) (how : Str) : ∀ j, KOk m how j (keysN m how j)
  | 0 => KOk.zero m how
  | j + 1 => (keysN_ok m how j).succ
end AX

set_option Elab.async false
set_option linter.all false
set_option maxRecDepth 100000
set_option maxHeartbeats 4000000
namespace AX
open PySem PySem.Spec PyProof.Rows L2
theorem fs_cases {fs : List Fnc} (h : FsOk fs) {f : Fnc} (m : f ∈ fs) : f = fF ∨ f = gF ∨ f = hF ∨ f = kF := by
  obtain ⟨l, sl, rfl⟩ := h
  rcases List.mem_append.mp m with m | m
  · have := sl.subset m
    simp at this
    rcases this with h | h | h
    · exact .inl h
    · exact .inr (.inl h)
    · exact .inr (.inr (.inl h))
  · simp at m; exact .inr (.inr (.inr m))
theorem fs_ok {fs : List Fnc} (h : FsOk fs) : ∀ f ∈ fs, FOk f := fun f m => by
  rcases fs_cases h m with rfl | rfl | rfl | rfl <;> exact ⟨by decide, by decide +kernel, by decide +kernel⟩
theorem fs_p {fs : List Fnc} (h : FsOk fs) {f : Fnc} (m : f ∈ fs) : 1 ≤ f.p ∧ f.p ≤ 3 := by
  rcases fs_cases h m with rfl | rfl | rfl | rfl <;> decide
theorem fs_len {fs : List Fnc} (h : FsOk fs) : fs.length ≤ 4 := by
  obtain ⟨l, sl, rfl⟩ := h
  have := sl.length_le
  simp at this ⊢; omega
theorem Fr1.none {h h1 : AH} {b p : Addr} (f : Fr1 b h h1) (bg : Bag h b) (hp : h1 p = .none) : h p = .none := by
  have pb := (f.bag bg).not hp
  cases e : h p with
  | none => rfl
  | some o => rw [f.1 p o pb e] at hp; cases hp
theorem cut_len {xs : List D} {n : Nat} : cutD xs .none (some (n : Int)) = xs.take n := by
  have := cut_upto (xs := xs) (v := n) (c := 0) (by omega) (by omega)
  simpa using this
/-- the worths that were drawn -/
def Drawn (m : Int) (_ : D) (o : Option D) : Prop := ∃ v : Int, o = some (.int v) ∧ 0 ≤ v ∧ v < m
theorem outs_drawn {m : Int} {xs ys : List D} (o : Outs (Drawn m) xs ys) : ∃ vs : List Int, ys = vs.map D.int ∧ vs.length = xs.length ∧ ∀ v ∈ vs, 0 ≤ v ∧ v < m := by
  induction o with
  | nil => exact ⟨[], rfl, rfl, by simp⟩
  | some _ k ih =>
    obtain ⟨vs, rfl, hl, hv⟩ := ih
    obtain ⟨v, e, v0, v1⟩ := k
    cases e
    refine ⟨vs ++ [v], by simp, by simp [hl], fun u hu => ?_⟩
    rcases List.mem_append.mp hu with hu | hu
    · exact hv u hu
    · simp at hu; subst hu; exact ⟨v0, v1⟩
  | none _ k ih =>
    obtain ⟨v, e, _⟩ := k
    cases e
def w0 : AE := (aFg (aCB cTuple (aCons (aSl (aFg (aCall sp__law_mixed AX0 (aCons (aVar 0) (aCons (aListRg (aVar 2)) aNil)))) aNoPart (aPart (aCB cLen (aCons (aOp rIx (aVar 1) (aC (.int 1))) aNil)))) aNil)))
def w3 : AS := (aFor (iRg1 (aCons (aVar 7) aNil)) (aName 11) (aSet 10 (aCall sp__law_longer AX0 (aCons (aVar 10) (aCons (aVar 2) (aCons (aVar 8) aNil))))))
def w4 : AS := (aFor (iSeq (aCB cSorted (aCons (aVar 10) aNil))) (aName 12) (aIfS (aTest (aOp (rI2 (fun _ _ => True) fun i j => .bl (decide (j < i))) (aCall sp__law_take AX0 (aCons (aVar 0) (aCons (aC (.int 3)) aNil))) (aC (.int 0)))) (aDrop (aM "list" mAppend (aVar 9) (aCons (aTup (aCons (aVar 12) (aCons (aCall sp__law_take AX0 (aCons (aVar 0) (aCons (aVar 2) aNil))) aNil))) aNil))) aNext))
def w5 : AS := (aDrop (aM "list" mAppend (aVar 5) (aCons (aTup (aCons (aCB cTuple (aCons (aVar 9) aNil)) (aCons (aCall sp__law_take AX0 (aCons (aVar 0) (aCons (aVar 2) aNil))) aNil))) aNil)))
def w6 : AE := (aFg (aCB cTuple (aCons (aLc (iSeq (aOp rIx (aVar 1) (aC (.int 3)))) (aName 14) aYes (aCall sp__law_take AX0 (aCons (aVar 0) (aCons (aVar 2) aNil))) [14]) aNil)))
def w7 : AE := (aFg (aCB cTuple (aCons (aLc (iRg1 (aCons (aVar 3) aNil)) (aName 11) aYes (aCall sp__law_take AX0 (aCons (aVar 0) (aCons (aVar 2) aNil))) [11]) aNil)))
theorem t__law_world_eq : t__law_world = aSeq (aSet 4 w0) (aSeq (aSet 5 (aLst aNil)) (aSeq (aFor (iSeq (aOp rIx (aVar 1) (aC (.int 0)))) (aGTup 3 (aGCons (aName 6) (aGCons (aName 7) (aGCons (aName 8) aGNil)))) (aSeq (aPar 9 10 (aCons (aLst aNil) (aCons (aLst (aCons (aTup aNil) aNil)) aNil))) (aSeq w3 (aSeq w4 w5))))
    (aSeq (aSet 13 w6) (aRet (aTup (aCons (aVar 2) (aCons (aVar 4) (aCons (aVar 13) (aCons w7 (aCons (aCB cTuple (aCons (aVar 5) aNil)) aNil)))))))))) := rfl
section
variable {b : Addr} {P : Prg} {m k : Int} {h : AH}
theorem w0_ok {R : DK} {r : ASt} (bg : Bag h b) (pk : POk P) (ml : (P.letters.length : Int) < m) (m6 : m ≤ 6) (q : ∀ ls h', ls.length = P.letters.length → ls.Nodup → (∀ x ∈ ls, 0 ≤ x ∧ x < m) → Fr1 b h h' → Bag h' b → R (eI ls) h') : w0 (some (.ref b) :: some (eP P) :: some (.int m) :: r) h R := by
  have ln : 1 ≤ P.letters.length ∧ P.letters.length ≤ 3 := by
    obtain ⟨n, n1, n2, e⟩ := pk.letters
    rw [e]; simp; omega
  unfold w0 aFg
  simp
  unfold aListRg
  simp
  refine ⟨by omega, by omega, fun p hp => ?_⟩
  have pb := bg.not hp
  have f0 : Fr1 b h (aup h p (.lst (rgD 0 m.toNat))) := Fr1.refl.new hp pb
  refine ⟨b, p, rgD 0 m.toNat, rfl, pb, f0.bag bg, aup_same, by rw [rgD_length]; omega, fun ys p2 h1 py bg1 f1 hp2 ep2 => ⟨h1, .refl _, ?_⟩⟩
  rw [rgD_eq] at py
  obtain ⟨ms, rfl, pm⟩ := perm_map_int py
  simp [eP, eS]
  rw [rSlR ep2]
  intro p3 hp3
  simp only [cut_len]
  refine ⟨(ms.map D.int).take P.letters.length, seqOf_ref aup_same, h1, .new hp3, ?_⟩
  rw [← List.map_take]
  have hm : ms.length = m.toNat := by rw [pm.length_eq]; simp [rgI]
  have hr : (rgI m.toNat).Nodup := by
    unfold rgI
    rw [List.Nodup, List.pairwise_map]
    exact List.nodup_range.imp fun h => by omega
  refine q _ h1 (by simp; omega) ((pm.nodup_iff.mpr hr).sublist (List.take_sublist _ _)) (fun x hx => ?_) (f0.trans f1) bg1
  have := pm.mem_iff.mp (List.mem_of_mem_take hx)
  unfold rgI at this
  obtain ⟨i, hi, rfl⟩ := List.mem_map.mp this
  have := List.mem_range.mp hi
  omega
theorem w6_ok {R : DK} {a3 a4 a5 a6 a7 a8 a9 a10 a11 a12 a13 a14 : Option D} (bg : Bag h b) (m0 : 0 < m) (m6 : m ≤ 6) (q : ∀ vs h', vs.length = P.inputs.length → (∀ x ∈ vs, 0 ≤ x ∧ x < m) → Fr1 b h h' → Bag h' b → R (eI vs) h') : w6 [some (.ref b), some (eP P), some (.int m), a3, a4, a5, a6, a7, a8, a9, a10, a11, a12, a13, a14] h R := by
  unfold w6
  refine tupBag (b := b) (xs := P.inputs.map D.str) (s := fun h => seqOf h (eS P.inputs)) (Drawn m) bg (fun R' hr => ?_) (fun h' f => rfl) (fun d hd h' f bg' K hK => ?_) fun ys h' o f bg' => ?_
  · unfold iSeq
    simp [eP]
    exact ⟨_, rfl, fun hz => hr (by simpa using hz)⟩
  · unfold lcBody
    simp only [aName_def, aYes_def, if_true]
    refine lcB_take rfl (fun K q => by simp [awipe]; exact q) m0 (by omega) bg' fun v h'' v0 v1 f2 => hK _ _ ⟨v, rfl, v0, v1⟩ f2
  · obtain ⟨vs, rfl, hl, hv⟩ := outs_drawn o
    exact q vs h' (by simpa using hl) hv f bg'
theorem w7_ok {R : DK} {a1 a4 a5 a6 a7 a8 a9 a10 a11 a12 a13 a14 : Option D} (bg : Bag h b) (m0 : 0 < m) (m6 : m ≤ 6) (k0 : 0 ≤ k) (k1 : k ≤ 100) (q : ∀ vs h', vs.length = k.toNat → (∀ x ∈ vs, 0 ≤ x ∧ x < m) → Fr1 b h h' → Bag h' b → R (eI vs) h') : w7 [some (.ref b), a1, some (.int m), some (.int k), a4, a5, a6, a7, a8, a9, a10, a11, a12, a13, a14] h R := by
  unfold w7
  refine tupBag (b := b) (xs := rgD 0 k.toNat) (s := fun h => some (rgD 0 k.toNat)) (Drawn m) bg (fun R' hr => ?_) (fun h' f => rfl) (fun d hd h' f bg' K hK => ?_) fun ys h' o f bg' => ?_
  · unfold iRg1
    simp
    refine ⟨by omega, by omega, hr ?_⟩
    rw [rgD_length]
    have : 1000 ≤ sizeLine := by decide
    omega
  · unfold lcBody
    simp only [aName_def, aYes_def, if_true]
    refine lcB_take rfl (fun K q => by simp [awipe]; exact q) m0 (by omega) bg' fun v h'' v0 v1 f2 => hK _ _ ⟨v, rfl, v0, v1⟩ f2
  · obtain ⟨vs, rfl, hl, hv⟩ := outs_drawn o
    exact q vs h' (by rw [hl, rgD_length]) hv f bg'
theorem keys_small {m : Int} {how : Str} {j : Nat} (m6 : m ≤ 6) (j3 : j ≤ 3) : (keysN m how j).length ≤ 216 := by
  have h1 := (keysN_ok m how j).cnt
  have h2 : m.toNat ^ j ≤ 6 ^ j := Nat.pow_le_pow_left (by omega) j
  have h3 : 6 ^ j ≤ 6 ^ 3 := Nat.pow_le_pow_right (by decide) j3
  have : (6 : Nat) ^ 3 = 216 := by decide
  omega
theorem w3_ok {h1 : AH} {pf pr pk : Addr} {fts : List D} {f : Fnc} {E : AEnds} {a1 a3 a4 a6 a11 a12 a13 a14 : Option D} (bg : Bag h b) (f1 : Fr1 b h h1) (m0 : 0 < m) (m6 : m ≤ 6) (fp : f.p ≤ 3) (fo : PyData.strOk f.how = true)
    (epf : h1 pf = some (.lst fts)) (epr : h1 pr = some (.lst [])) (epk : h1 pk = some (.lst [eI []])) (pfb : pf ≠ b) (prb : pr ≠ b)
    (nx : ∀ h2 pk2 a11, Fr1 b h h2 → h2 pf = some (.lst fts) → h2 pr = some (.lst []) → h2 pk2 = some (.lst ((keysN m f.how f.p).map eI)) → E.nx [some (.ref b), a1, some (.int m), a3, a4, some (.ref pf), a6, some (.int f.p), some (.str f.how), some (.ref pr), some (.ref pk2), a11, a12, a13, a14] h2) :
    w3 E [some (.ref b), a1, some (.int m), a3, a4, some (.ref pf), a6, some (.int f.p), some (.str f.how), some (.ref pr), some (.ref pk), a11, a12, a13, a14] h1 := by
  unfold w3 aFor iRg1
  simp
  refine ⟨by omega, fun j σ h2 => Fr1 b h h2 ∧ h2 pf = some (.lst fts) ∧ h2 pr = some (.lst []) ∧ ∃ pk2 a11, h2 pk2 = some (.lst ((keysN m f.how j).map eI)) ∧ j ≤ f.p ∧ σ = [some (.ref b), a1, some (.int m), a3, a4, some (.ref pf), a6, some (.int f.p), some (.str f.how), some (.ref pr), some (.ref pk2), a11, a12, a13, a14], ⟨f1, epf, epr, pk, _, epk, by omega, rfl⟩, fun j σ h2 W => ?_⟩
  obtain ⟨f2, epf2, epr2, pk2, a11, epk2, hj, rfl⟩ := W
  have hg : (rgD 0 f.p)[j]? = if j < f.p then some (D.int (0 + (j : Nat))) else none := rgD_get
  rw [hg]
  by_cases hlt : j < f.p
  · rw [if_pos hlt]
    simp
    have ks := keys_small (m := m) (how := f.how) m6 (show j ≤ 3 by omega)
    have kok := keysN_ok m f.how j
    refine ⟨pk2, keysN m f.how j, m, f.how, rfl, epk2, fo, by omega, by omega, by omega, fun k hk => by rw [kok.len k hk]; omega, fun p hp => Fgt.of ⟨?_, ?_, ?_, p, aup_same, by omega, _, rfl⟩⟩
    · exact f2.new (f2.none bg hp) ((f2.bag bg).not hp)
    · rw [aup_ne (fun e => by rw [← e, epf2] at hp; cases hp)]; exact epf2
    · rw [aup_ne (fun e => by rw [← e, epr2] at hp; cases hp)]; exact epr2
  · rw [if_neg hlt]
    have : j = f.p := by omega
    subst this
    exact nx h2 pk2 a11 f2 epf2 epr2 epk2
/-- what the rows are, after some keys -/
structure RowsOk (m : Int) (ks : List (List Int)) (rows : List Row) : Prop where
  sub : (rows.map (·.1)).Sublist ks
  w : ∀ r ∈ rows, 0 ≤ r.2 ∧ r.2 < m
theorem w4_ok {h1 : AH} {pf pr pk : Addr} {fts : List D} {f : Fnc} {E : AEnds} {a1 a3 a4 a6 a11 a12 a13 a14 : Option D} (bg : Bag h b) (f1 : Fr1 b h h1) (m0 : 0 < m) (m6 : m ≤ 6) (fp : 1 ≤ f.p ∧ f.p ≤ 3) (epf : h1 pf = some (.lst fts)) (epr : h1 pr = some (.lst []))
    (epk : h1 pk = some (.lst ((keysN m f.how f.p).map eI))) (hpf : h pf = none) (hpr : h pr = none) (npr : pf ≠ pr)
    (nx : ∀ h2 rows a12, Fr1 b h h2 → h2 pf = some (.lst fts) → h2 pr = some (.lst (rows.map eRow)) → RowsOk m (keysN m f.how f.p) rows → E.nx [some (.ref b), a1, some (.int m), a3, a4, some (.ref pf), a6, some (.int f.p), some (.str f.how), some (.ref pr), some (.ref pk), a11, a12, a13, a14] h2) :
    w4 E [some (.ref b), a1, some (.int m), a3, a4, some (.ref pf), a6, some (.int f.p), some (.str f.how), some (.ref pr), some (.ref pk), a11, a12, a13, a14] h1 := by
  have kok := keysN_ok m f.how f.p
  have kne : ∀ k ∈ keysN m f.how f.p, k ≠ [] := fun k hk e => by
    have := kok.len k hk
    rw [e] at this
    simp at this; omega
  have pfb := bg.not hpf
  have prb := bg.not hpr
  unfold w4 aFor iSeq
  simp
  refine ⟨_, seqOf_ref epk, sortsI kne, fun ps hps => ?_⟩
  rw [srt_keys kok.up]
  have nps : ps ≠ pf ∧ ps ≠ pr := ⟨fun e => (by rw [e, epf] at hps; cases hps), fun e => (by rw [e, epr] at hps; cases hps)⟩
  have psb := (f1.bag bg).not hps
  refine ⟨_, seqOf_ref aup_same, fun hz => ⟨(keysN m f.how f.p).map eI, seqOf_ref aup_same, fun j σ h2 => Fr1 b h h2 ∧ h2 ps = some (.lst ((keysN m f.how f.p).map eI)) ∧ h2 pf = some (.lst fts) ∧ (∃ rows : List Row, h2 pr = some (.lst (rows.map eRow)) ∧ RowsOk m ((keysN m f.how f.p).take j) rows) ∧ ∃ a12, σ = [some (.ref b), a1, some (.int m), a3, a4, some (.ref pf), a6, some (.int f.p), some (.str f.how), some (.ref pr), some (.ref pk), a11, a12, a13, a14], ⟨f1.new (f1.none bg hps) psb, aup_same, ?_, ⟨[], ?_, ⟨by simp, by simp⟩⟩, _, rfl⟩, fun j σ h2 W => ?_⟩⟩
  · rw [aup_ne nps.1.symm]; exact epf
  · rw [aup_ne nps.2.symm]; exact epr
  obtain ⟨f2, eps2, epf2, ⟨rows, epr2, rok⟩, a12, rfl⟩ := W
  refine ⟨seqOf_ref eps2, ?_⟩
  rw [List.getElem?_map]
  cases ek : (keysN m f.how f.p)[j]? with
  | none =>
    simp
    rw [List.take_of_length_le (List.getElem?_eq_none_iff.mp ek)] at rok
    exact nx h2 rows a12 f2 epf2 epr2 rok
  | some key =>
    have hj := (List.getElem?_eq_some_iff.mp ek).1
    have ht : (keysN m f.how f.p).take (j + 1) = (keysN m f.how f.p).take j ++ [key] := by rw [List.take_add_one, ek]; rfl
    have ks := keys_small (m := m) (how := f.how) m6 fp.2
    have rl : rows.length ≤ 216 := by
      have := rok.sub.length_le
      simp at this; omega
    simp
    refine ⟨b, 3, rfl, by decide, by decide, f2.bag bg, fun v h3 v0 v1 bg3 f3 => ?_⟩
    have f3' := f2.trans f3
    simp
    by_cases hv : 0 < v
    · rw [if_pos hv]
      refine ⟨tyM_lst (f3.1 pr _ prb epr2), b, m, rfl, m0, by omega, bg3, fun u h4 u0 u1 bg4 f4 => ⟨by decide, rows.map eRow, ?_, ?_, ?_⟩⟩
      · exact f4.1 pr _ prb (f3.1 pr _ prb epr2)
      · have : 1000 ≤ sizeLine := by decide
        simp; omega
      · refine Fgt.of ⟨(f3'.trans f4).new hpr prb, ?_, ?_, ⟨rows ++ [(key, u)], ?_, ?_⟩, _, rfl⟩
        · rw [aup_ne nps.2]; exact f4.1 ps _ psb (f3.1 ps _ psb eps2)
        · rw [aup_ne npr]; exact f4.1 pf _ pfb (f3.1 pf _ pfb epf2)
        · rw [aup_same]; simp [eRow]
        · rw [ht]
          refine ⟨by rw [List.map_append]; exact rok.sub.append (List.Sublist.refl _), fun r hr => ?_⟩
          rcases List.mem_append.mp hr with hr | hr
          · exact rok.w r hr
          · simp at hr; subst hr; exact ⟨u0, u1⟩
    · rw [if_neg hv]
      refine Fgt.of ⟨f3', f3.1 ps _ psb eps2, f3.1 pf _ pfb epf2, ⟨rows, f3.1 pr _ prb epr2, ?_⟩, _, rfl⟩
      rw [ht]
      exact ⟨rok.sub.trans (List.sublist_append_left _ _), rok.w⟩
theorem getD01 : ∀ {l : List Int}, l.Pairwise (· ≤ ·) → l.length = 2 → l.getD 0 0 ≤ l.getD 1 0
  | [a, c], h, _ => by simpa using h
theorem tok_of {f : Fnc} {rows : List Row} {u : Int} (fo : FOk f) (he : f.how = "either" ∨ f.how = "told") (fp : 1 ≤ f.p ∧ f.p ≤ 3) (m6 : m ≤ 6) (r : RowsOk m (keysN m f.how f.p) rows) (u0 : 0 ≤ u ∧ u < m) : TOk m f (rows, u) := by
  have kok := keysN_ok m f.how f.p
  refine ⟨fun x hx => ⟨⟨?_, ?_, fun e => ?_⟩, r.w x hx⟩, rising_of (kok.up.sublist r.sub), u0, ?_⟩
  · exact kok.len _ (r.sub.subset (List.mem_map.mpr ⟨x, hx, rfl⟩))
  · exact kok.bnd _ (r.sub.subset (List.mem_map.mpr ⟨x, hx, rfl⟩))
  · have hm := r.sub.subset (List.mem_map.mpr ⟨x, hx, rfl⟩)
    refine getD01 (kok.mono (by rw [e]; decide) _ hm) ?_
    rw [kok.len _ hm, fo.1 e]
  · have h1 := r.sub.length_le
    have h2 := keys_small (m := m) (how := f.how) m6 fp.2
    simp at h1 ⊢; omega
theorem fs_how {fs : List Fnc} (h : FsOk fs) {f : Fnc} (m : f ∈ fs) : f.how = "either" ∨ f.how = "told" := by
  rcases fs_cases h m with rfl | rfl | rfl | rfl <;> decide
end
theorem pure__law_world (ds : List D) (h : AH) (R : DK) (E : AXK) (q : sp__law_world ds h R E) : t__law_world { nx := fun _ h' => fgR R .non h', rt := fgR R } (astart N__law_world ds) h := by
  obtain ⟨b, P, m, k, rfl, bg, pk, ml, m6, k0, k1, q⟩ := q
  have ln : 1 ≤ P.letters.length ∧ P.letters.length ≤ 3 := by
    obtain ⟨n, n1, n2, e⟩ := pk.letters
    rw [e]; simp; omega
  have m0 : 0 < m := by omega
  rw [t__law_world_eq]
  simp only [aSeq_def, aSet_def, astart, N__law_world]
  refine w0_ok bg pk ml m6 fun ls h1 ll lnd lb f1 bg1 => ?_
  simp
  intro pf hpf
  have hpf0 := f1.none bg hpf
  have pfb := bg.not hpf0
  unfold aFor iSeq
  simp [eP]
  refine ⟨P.fs.map eFn, rfl, fun hz => ⟨P.fs.map eFn, rfl, fun i σ h2 => Fr1 b h h2 ∧ (∃ ts : List Tab, ts.length = i ∧ i ≤ P.fs.length ∧ h2 pf = some (.lst (ts.map eTab)) ∧ ∀ (j : Nat) (f : Fnc) (t : Tab), P.fs[j]? = some f → ts[j]? = some t → TOk m f t) ∧ ∃ a6 a7 a8 a9 a10 a11 a12, σ = [some (.ref b), some (eP P), some (.int m), some (.int k), some (eI ls), some (.ref pf), a6, a7, a8, a9, a10, a11, a12, none, none],
    ⟨f1.new hpf0 pfb, ⟨[], rfl, by omega, aup_same, by simp⟩, _, _, _, _, _, _, _, rfl⟩, fun i σ h2 W => ?_⟩⟩
  obtain ⟨f2, ⟨ts, tl, hi, epf, tok⟩, a6, a7, a8, a9, a10, a11, a12, rfl⟩ := W
  refine ⟨rfl, ?_⟩
  rw [List.getElem?_map]
  cases ef : P.fs[i]? with
  | none =>
    have hil : i = P.fs.length := by
      have := List.getElem?_eq_none_iff.mp ef
      omega
    simp
    refine w6_ok (f2.bag bg) m0 m6 fun vs h3 vl vb f3 bg3 => ?_
    refine w7_ok bg3 m0 m6 k0 k1 fun us h4 ul ub f4 bg4 => ?_
    refine ⟨_, seqOf_ref (f4.1 pf _ pfb (f3.1 pf _ pfb epf)), by decide, fgr ?_⟩
    refine q ⟨m, ls, vs, us, ts⟩ h4 ⟨rfl, ll, lnd, lb, vl, vb, ?_, ub, ?_, tok⟩ bg4 ((f2.trans f3).trans f4)
    · show us.length ≤ 100
      omega
    · show ts.length = _
      omega
  | some f =>
    have hm := List.mem_of_getElem? ef
    have fo := fs_ok pk.fs f hm
    have fp := fs_p pk.fs hm
    have hil := (List.getElem?_eq_some_iff.mp ef).1
    simp [eFn]
    intro pr hpr
    refine ⟨by decide, fun pq hpq => ?_⟩
    have hpr0 := f2.none bg hpr
    have prb := bg.not hpr0
    have npr : pf ≠ pr := fun e => by rw [← e, epf] at hpr; cases hpr
    have nq : pq ≠ pr := fun e => by rw [e, aup_same] at hpq; cases hpq
    have hpq2 : h2 pq = .none := by rw [aup_ne nq] at hpq; exact hpq
    have hpq0 := f2.none bg hpq2
    have pqb := bg.not hpq0
    have nqf : pq ≠ pf := fun e => by rw [e, epf] at hpq2; cases hpq2
    have f3 : Fr1 b h (aup (aup h2 pr (.lst [])) pq (.lst [.tup []])) := (f2.new hpr0 prb).new hpq0 pqb
    refine w3_ok (f := f) (fts := ts.map eTab) bg f3 m0 m6 fp.2 fo.2.1 (by rw [aup_ne nqf.symm, aup_ne npr]; exact epf) (by rw [aup_ne nq.symm, aup_same]) aup_same pfb prb fun h4 pk2 b11 f4 epf4 epr4 epk4 => ?_
    simp only [aSeq_def]
    refine w4_ok (f := f) (fts := ts.map eTab) bg f4 m0 m6 fp epf4 epr4 epk4 hpf0 hpr0 npr fun h5 rows b12 f5 epf5 epr5 rok => ?_
    unfold w5
    simp
    refine ⟨tyM_lst epf5, _, seqOf_ref epr5, b, m, rfl, m0, by omega, f5.bag bg, fun u h6 u0 u1 bg6 f6 => ⟨by decide, ts.map eTab, f6.1 pf _ pfb epf5, ?_, Fgt.of ⟨?_, ?_, _, _, _, _, _, _, _, rfl⟩⟩⟩
    · have : 1000 ≤ sizeLine := by decide
      have := fs_len pk.fs
      simp; omega
    · exact (f5.trans f6).new hpf0 pfb
    · refine ⟨ts ++ [(rows, u)], by simp [tl], by omega, by rw [aup_same]; simp [eTab], fun j g rs v eg et => ?_⟩
      by_cases hj : j < ts.length
      · rw [List.getElem?_append_left hj] at et
        exact tok j g (rs, v) eg et
      · rw [List.getElem?_append_right (by omega)] at et
        have hj0 : j - ts.length = 0 := by
          cases z : j - ts.length with
          | zero => rfl
          | succ n => rw [z] at et; simp at et
        rw [hj0] at et
        simp at et
        obtain ⟨e1, e2⟩ := et
        subst e1 e2
        have hji : j = i := by omega
        subst hji
        rw [ef] at eg; cases eg
        exact tok_of fo (fs_how pk.fs hm) fp m6 rok ⟨u0, u1⟩
end AX

set_option Elab.async false
set_option linter.all false
set_option maxRecDepth 100000
set_option maxHeartbeats 4000000
namespace AX
open PySem PySem.Spec PyProof.Rows L2
@[simp] theorem aTry_def {Cs : List Addr} {i : Nat} {EO : ASt → AXK} {hs : List AHd} {tb : (ASt → AXK) → AS} {E : AEnds} {σ : ASt} {h : AH} : aTry Cs i EO hs tb E σ h = tb (aHs Cs i EO E hs) E σ h := rfl
@[simp] theorem aCallS_def {sp : ASp} {EA : ASt → AXK} {t : AA} {σ : ASt} {h : AH} {R : DK} : aCallS sp EA t σ h R = t σ h fun ds h1 => sp ds h1 R (EA σ) := rfl
@[simp] theorem aXf_def {a dd : Addr} {n : Str} {te : AE} {σ : ASt} {h : AH} {R : DK} : aXf a dd n te σ h R = te σ h fun x h1 => x = .ref a ∧ ∃ fs v, h1 dd = some (.xd fs) ∧ fs.lookup n = some v ∧ R v h1 := rfl
theorem pure__law_bag (l : Addr) (ns : List Int) (ds : List D) (h : AH) (R : DK) (E : AXK) (q : sp__law_bag l ns ds h R E) : t__law_bag l ns { nx := fun _ h' => fgR R .non h', rt := fgR R } (astart N__law_bag ds) h := by
  obtain ⟨rfl, hl, q⟩ := q
  simp [t__law_bag, astart, N__law_bag]
  unfold aLc iSeq aScr
  simp
  refine ⟨hl, fun p hp => ⟨_, seqOf_ref aup_same, fun hz => ⟨ns.map D.int, seqOf_ref aup_same, fun p1 hp1 => ?_⟩⟩⟩
  have n1 : p1 ≠ p := fun e => by subst e; rw [aup_same] at hp1; cases hp1
  have np : h p1 = none := by rwa [aup_ne n1] at hp1
  let f : Int → Int := fun n => if n < 0 then -n else n
  refine ⟨fun i h' => h' = aup (aup h p (.lst (ns.map D.int))) p1 (.lst (((ns.map f).take i).map D.int)), by simp, fun i h' e => ?_⟩
  subst e
  refine ⟨seqOf_ref (by rw [aup_ne n1.symm, aup_same]), ?_⟩
  rw [List.getElem?_map]
  cases en : ns[i]? with
  | none =>
    have hi := List.getElem?_eq_none_iff.mp en
    have et : (ns.map f).take i = ns.map f := List.take_of_length_le (by simpa using hi)
    rw [et]
    refine ⟨by decide, fun p2 hp2 => ?_⟩
    have n2 : p2 ≠ p1 := fun e => by subst e; rw [aup_same] at hp2; cases hp2
    have n3 : p2 ≠ p := fun e => by subst e; rw [aup_ne n2, aup_same] at hp2; cases hp2
    have np2 : h p2 = none := by rwa [aup_ne n2, aup_ne n3] at hp2
    refine ⟨aup (aup h p1 (.lst ((ns.map f).map D.int))) p2 (.lst [.int 0, .int 1234567891, .int 0, .ref p1]), fun c o hc => ?_, q p1 p2 np n2 np2⟩
    by_cases c2 : c = p2
    · subst c2; rw [aup_same] at hc ⊢; exact hc
    · rw [aup_ne c2] at hc ⊢
      by_cases c1 : c = p1
      · subst c1; rw [aup_same] at hc ⊢; exact hc
      · rw [aup_ne c1] at hc ⊢
        rw [aup_ne (fun e => by rw [e, ] at hc; rw [hc] at hp; cases hp)]
        exact hc
  | some n =>
    simp only [Option.map_some, lcBody, aName_def, aYes_def, if_true, aCB_def, aCons_def, aNil_def, awipe, aVar_def, List.set, List.getElem?_cons_succ, List.getElem?_cons_zero, cAbs]
    refine ⟨_, aup_same, ?_, aup (aup h p (.lst (ns.map D.int))) p1 (.lst (((ns.map f).take (i + 1)).map D.int)), ?_, rfl⟩
    · have : (63 : Nat) < sizeLine := by decide
      simp; omega
    · rw [aup_aup, List.take_add_one, List.map_append, List.getElem?_map, en]
      exact .refl _
theorem pure__law_fault {CB CT : Addr} (hne : CT ≠ CB) (ds : List D) (h : AH) (R : DK) (E : AXK) (q : sp__law_fault ds h R E) : t__law_fault CB CT { nx := fun _ h' => fgR R .non h', rt := fgR R } (astart N__law_fault ds) h := by
  obtain ⟨P, d, rfl, ok, nr, q1, q2⟩ := q
  have two : ∀ {dd : Addr} {o : O}, h dd = none → Sub h (aup h dd o) := fun hd => .new hd
  simp [t__law_fault, astart, N__law_fault]
  refine ⟨P, d, rfl, ok, nr, fun hf => ?_, fun w hw hf => ?_⟩
  · refine ⟨by simp, fun _ => ⟨by simp, fun a dd hdd => ?_⟩, fun z => absurd rfl z⟩
    show D.ref a = D.ref a ∧ ∃ fs v, aup h dd (.xd [("fault", .str "form")]) dd = some (.xd fs) ∧ fs.lookup ("fault" : Str) = some v ∧ fgR R v _
    exact ⟨rfl, _, _, aup_same, by simp [List.lookup], h, .new hdd, q1 hf⟩
  · obtain ⟨nd, q2, q3⟩ := q2 w hw hf
    refine ⟨nd, fun hm => ?_, fun hm => ⟨fun x hx => ?_, fun hx => ?_⟩⟩
    · refine ⟨by simp, fun z => absurd z hne, fun _ => ⟨by simp, fun _ => ⟨by simp, fun a dd hdd => ?_⟩, fun z => absurd rfl z⟩⟩
      show D.ref a = D.ref a ∧ ∃ fs v, aup h dd (.xd [("what", .str "worths"), ("limit", .int 2100)]) dd = some (.xd fs) ∧ fs.lookup ("what" : Str) = some v ∧ (D.ref a = D.ref a ∧ ∃ fs u, aup h dd (.xd [("what", .str "worths"), ("limit", .int 2100)]) dd = some (.xd fs) ∧ fs.lookup ("limit" : Str) = some u ∧ (2 ≤ sizeLine ∧ fgR R (.tup [v, u]) _))
      have e1 : ((Str.ofString "limit") == (Str.ofString "what")) = false := by decide
      exact ⟨rfl, _, _, aup_same, by simp [List.lookup], rfl, _, _, aup_same, by simp [List.lookup, e1], by decide, h, .new hdd, q2 hm⟩
    · refine ⟨by simp, fun _ => ⟨by simp, fun a dd hdd => ?_⟩, fun z => absurd rfl z⟩
      show D.ref a = D.ref a ∧ ∃ fs v, aup h dd (.xd [("fault", .str x)]) dd = some (.xd fs) ∧ fs.lookup ("fault" : Str) = some v ∧ fgR R v _
      have := q3 hm
      rw [hx] at this
      exact ⟨rfl, _, .str x, aup_same, by simp [List.lookup], h, .new hdd, this⟩
    · have := q3 hm
      rw [hx] at this
      exact fgr this
end AX

set_option Elab.async false
set_option linter.all false
set_option maxRecDepth 100000
set_option maxHeartbeats 4000000
namespace AX
open PySem PySem.Spec PyProof.Rows L2
/-! ### what is shown: small worlds -/
def Dig (k : Int) : Prop := 0 ≤ k ∧ k < 10
def W (d : D) : Nat := (toP d).weight
theorem W_int {i : Int} (h : Dig i) : W (.int i) ≤ 4 := by
  obtain ⟨h0, h1⟩ := h
  have : i = 0 ∨ i = 1 ∨ i = 2 ∨ i = 3 ∨ i = 4 ∨ i = 5 ∨ i = 6 ∨ i = 7 ∨ i = 8 ∨ i = 9 := by omega
  rcases this with rfl | rfl | rfl | rfl | rfl | rfl | rfl | rfl | rfl | rfl <;> decide
theorem W_all {k : Nat} : ∀ {xs : List D}, (∀ x ∈ xs, W x ≤ k) → PyData.weightAll (toPs xs) ≤ xs.length * (k + 1)
  | [], _ => by simp [toPs, PyData.weightAll]
  | x :: xs, h => by
    simp only [toPs, PyData.weightAll, List.length_cons]
    have h1 : (toP x).weight ≤ k := h x (by simp)
    have h2 := W_all (k := k) (xs := xs) fun y hy => h y (by simp [hy])
    rw [Nat.succ_mul]
    omega
theorem W_tup {k n : Nat} {xs : List D} (h : ∀ x ∈ xs, W x ≤ k) (hl : xs.length ≤ n) : W (.tup xs) ≤ n * (k + 1) := by
  show PyData.weightAll (toPs xs) ≤ _
  exact Nat.le_trans (W_all h) (Nat.mul_le_mul_right _ hl)
theorem it_all : ∀ {xs : List D}, (∀ x ∈ xs, itP (toP x) = true) → itPs (toPs xs) = true
  | [], _ => rfl
  | x :: xs, h => by
    simp only [toPs, itPs, Bool.and_eq_true]
    exact ⟨h x (by simp), it_all fun y hy => h y (by simp [hy])⟩
theorem it_tup {xs : List D} (h : ∀ x ∈ xs, itP (toP x) = true) : itP (toP (.tup xs)) = true := by
  simp only [toP, itP]; exact it_all h
theorem it_int {i : Int} (h : Dig i) : itP (toP (.int i)) = true := by simp only [toP, itP, decide_eq_true_eq]; exact h
theorem ok_tup {n : Nat} {xs : List D} (h : ∀ x ∈ xs, okd n x = true) : okd (n + 1) (.tup xs) = true := by
  simp only [okd, List.all_eq_true]; exact h
structure Sh (n k : Nat) (d : D) : Prop where
  o : okd n d = true
  i : itP (toP d) = true
  w : W d ≤ k
theorem Sh.int {i : Int} {n : Nat} (h : Dig i) : Sh n 4 (.int i) := ⟨by cases n <;> rfl, it_int h, W_int h⟩
theorem Sh.tup {n k l : Nat} {xs : List D} (h : ∀ x ∈ xs, Sh n k x) (hl : xs.length ≤ l) : Sh (n + 1) (l * (k + 1)) (.tup xs) :=
  ⟨ok_tup fun x hx => (h x hx).o, it_tup fun x hx => (h x hx).i, W_tup (fun x hx => (h x hx).w) hl⟩
theorem Sh.mono {n m k l : Nat} {d : D} (h : Sh n k d) (nm : n ≤ m) (kl : k ≤ l) : Sh m l d := ⟨okd_mono nm h.o, h.i, Nat.le_trans h.w kl⟩
theorem Sh.pair {n k l : Nat} {a b : D} (ha : Sh n k a) (hb : Sh n l b) : Sh (n + 1) (k + l + 2) (.tup [a, b]) :=
  ⟨ok_tup (by simp; exact ⟨ha.o, hb.o⟩), it_tup (by simp; exact ⟨ha.i, hb.i⟩), by
    have h1 : (toP a).weight ≤ k := ha.w
    have h2 : (toP b).weight ≤ l := hb.w
    show PyData.weightAll (toPs [a, b]) ≤ _
    simp only [toPs, PyData.weightAll]; omega⟩
theorem Sh.eI {ns : List Int} {l : Nat} {n : Nat} (h : ∀ k ∈ ns, Dig k) (hl : ns.length ≤ l) : Sh (n + 1) (l * 5) (eI ns) := by
  unfold AX.eI
  exact Sh.tup (k := 4) (fun x hx => by obtain ⟨k, hk, rfl⟩ := List.mem_map.mp hx; exact Sh.int (h k hk)) (by simpa using hl)
theorem Sh.shows {n k : Nat} {d : D} (h : Sh n k d) (hn : n ≤ 60) (hk : k ≤ 2 ^ 20) : Shows d := ⟨okd_mono hn h.o, h.i, Nat.le_trans h.w hk⟩
structure SmT (t : Tab) : Prop where
  rows : ∀ r ∈ t.1, r.1.length ≤ 3 ∧ (∀ k ∈ r.1, Dig k) ∧ Dig r.2
  rest : Dig t.2
  sz : t.1.length ≤ 1000
theorem SmT.sh {t : Tab} (h : SmT t) : Sh 4 33006 (eTab t) := by
  unfold eTab
  refine Sh.mono (Sh.pair (n := 3) (k := 33000) (l := 4) ?_ (Sh.int h.rest)) (by omega) (by omega)
  have := Sh.tup (n := 2) (k := 32) (l := 1000) (xs := t.1.map eRow) (fun x hx => by
    obtain ⟨r, hr, rfl⟩ := List.mem_map.mp hx
    obtain ⟨r1, r2, r3⟩ := h.rows r hr
    unfold eRow
    exact Sh.mono (Sh.pair (n := 1) (Sh.eI (n := 0) r2 r1) (Sh.int r3)) (by omega) (by omega)) (by simpa using h.sz)
  exact Sh.mono this (by omega) (by omega)
structure Sml (w : Wld) : Prop where
  many : Dig w.many
  l : ∀ k ∈ w.letters, Dig k
  i : ∀ k ∈ w.inputs, Dig k
  a : ∀ k ∈ w.anys, Dig k
  ll : w.letters.length ≤ 1000
  il : w.inputs.length ≤ 1000
  al : w.anys.length ≤ 1000
  tl : w.tabs.length ≤ 4
  t : ∀ t ∈ w.tabs, SmT t
theorem Sml.sh {w : Wld} (h : Sml w) : Sh 6 200000 (eW w) := by
  have h1 := Sh.eI (n := 4) h.l h.ll
  have h2 := Sh.eI (n := 4) h.i h.il
  have h3 := Sh.eI (n := 4) h.a h.al
  have h0 : Sh 5 4 (D.int w.many) := Sh.int h.many
  have h4 : Sh 5 (4 * 33007) (D.tup (w.tabs.map eTab)) := Sh.tup (fun x hx => by obtain ⟨t, ht, rfl⟩ := List.mem_map.mp hx; exact (h.t t ht).sh) (by simpa using h.tl)
  have w0 : (toP (D.int w.many)).weight ≤ _ := h0.w
  have w1 : (toP (eI w.letters)).weight ≤ _ := h1.w
  have w2 : (toP (eI w.inputs)).weight ≤ _ := h2.w
  have w3 : (toP (eI w.anys)).weight ≤ _ := h3.w
  have w4 : (toP (D.tup (w.tabs.map eTab))).weight ≤ _ := h4.w
  refine ⟨ok_tup (n := 5) ?_, it_tup ?_, ?_⟩
  · simp only [List.mem_cons, List.not_mem_nil, or_false, forall_eq_or_imp, forall_eq]
    exact ⟨h0.o, h1.o, h2.o, h3.o, h4.o⟩
  · simp only [List.mem_cons, List.not_mem_nil, or_false, forall_eq_or_imp, forall_eq]
    exact ⟨h0.i, h1.i, h2.i, h3.i, h4.i⟩
  · show PyData.weightAll (toPs [_, _, _, _, _]) ≤ _
    simp only [toPs, PyData.weightAll]; omega
theorem Sml.shows {w : Wld} (h : Sml w) : Shows (eW w) := h.sh.shows (by omega) (by omega)
/-! ### right worlds -/
section
variable {P : Prg} {m : Int} {w : Wld}
theorem POk.ll (p : POk P) : 1 ≤ P.letters.length ∧ P.letters.length ≤ 3 := by
  obtain ⟨n, n1, n2, e⟩ := p.letters
  rw [e]; simp; omega
theorem POk.il (p : POk P) : P.inputs.length ≤ 4 := by
  obtain ⟨n, n1, n2, e⟩ := p.vars
  have := p.inputs.length_le
  rw [e] at this
  simp at this; omega
theorem POk.fl (p : POk P) : 1 ≤ P.fs.length ∧ P.fs.length ≤ 4 := by
  obtain ⟨l, sl, e⟩ := p.fs
  have := sl.length_le
  rw [e]; simp at this ⊢; omega
theorem POk.last (p : POk P) : P.fs[P.fs.length - 1]? = some kF := by
  obtain ⟨l, sl, e⟩ := p.fs
  rw [e]; simp
theorem dig_of (m6 : m ≤ 6) {k : Int} (h : 0 ≤ k ∧ k < m) : Dig k := ⟨h.1, by omega⟩
theorem WOk.tab (p : POk P) (k : WOk P m w) {t : Tab} (ht : t ∈ w.tabs) : ∃ f ∈ P.fs, TOk m f t := by
  obtain ⟨i, hi, e⟩ := List.mem_iff_getElem.mp ht
  have hi' : i < P.fs.length := by rw [← k.tl]; exact hi
  exact ⟨P.fs[i], List.getElem_mem hi', k.tb i _ _ (List.getElem?_eq_getElem hi') (by rw [List.getElem?_eq_getElem hi, e])⟩
theorem WOk.sml (p : POk P) (k : WOk P m w) (m0 : 0 ≤ m) (m6 : m ≤ 6) : Sml w where
  many := by rw [k.many]; exact ⟨m0, by omega⟩
  l := fun x hx => dig_of m6 (k.lb x hx)
  i := fun x hx => dig_of m6 (k.ib x hx)
  a := fun x hx => dig_of m6 (k.ab x hx)
  ll := by rw [k.ll]; have := p.ll; omega
  il := by rw [k.il]; have := p.il; omega
  al := by have := k.al; omega
  tl := by rw [k.tl]; exact p.fl.2
  t := fun t ht => by
    obtain ⟨f, hf, tk⟩ := k.tab p ht
    refine ⟨fun r hr => ?_, dig_of m6 tk.rest, tk.sz⟩
    obtain ⟨⟨r1, r2, _⟩, r3⟩ := tk.keys r hr
    exact ⟨by rw [r1]; exact (fs_p p.fs hf).2, fun x hx => dig_of m6 (r2 x hx), dig_of m6 r3⟩
theorem all_below {ns : List Int} (h : ∀ k ∈ ns, 0 ≤ k ∧ k < m) : (ns.all fun n => decide (n < m)) = true := List.all_eq_true.mpr fun k hk => decide_eq_true (h k hk).2
theorem rightRow_of {f : Fnc} {t : Tab} (tk : TOk m f t) {r : Row} (hr : r ∈ t.1) : rightRow f m r = true := by
  obtain ⟨⟨r1, r2, r3⟩, r4⟩ := tk.keys r hr
  unfold rightRow
  rw [if_neg (by rw [r1, all_below r2]; simp; omega)]
  by_cases h : f.how = "either"
  · have := r3 h
    simp at this
    simp
    exact .inr this
  · simp [h]
theorem rightFn_of {f : Fnc} {t : Tab} (tk : TOk m f t) : rightFn f m t = true := by
  unfold rightFn
  rw [if_neg]
  · exact tk.up
  · have : t.1.all (rightRow f m) = true := List.all_eq_true.mpr fun r hr => rightRow_of tk hr
    rw [this]
    have := tk.rest
    simp; omega
theorem zip_mem {α β : Type} {as : List α} {bs : List β} {a : α} {b : β} (h : (a, b) ∈ as.zip bs) : ∃ i : Nat, as[i]? = some a ∧ bs[i]? = some b := by
  obtain ⟨i, hi⟩ := List.mem_iff_getElem?.mp h
  rw [List.getElem?_zip_eq_some] at hi
  exact ⟨i, hi⟩
theorem rightFns_of (k : WOk P m w) : rightFns P.fs m w.tabs = true := by
  unfold rightFns
  rw [if_neg (by rw [k.tl]; simp)]
  refine List.all_eq_true.mpr fun ⟨f, t⟩ hp => ?_
  obtain ⟨i, e1, e2⟩ := zip_mem hp
  exact rightFn_of (k.tb i f t e1 e2)
theorem fault_tabs (k : WOk P m w) (m0 : 0 < m) (ts : List Tab) : worldFault P { w with tabs := ts } = if rightFns P.fs m ts = true then none else some ("functions" : Str) := by
  unfold worldFault
  simp only
  rw [if_neg (by rw [k.many]; omega), if_neg (by rw [k.many, all_below k.lb]; simp [k.ll, k.ln]), if_neg (by rw [k.many, all_below k.ib]; simp [k.il]), if_neg (by rw [k.many, all_below k.ab]; simp), k.many]
theorem fault_none (k : WOk P m w) (m0 : 0 < m) : worldFault P w = none := by
  have := fault_tabs k m0 w.tabs
  rw [rightFns_of k, if_pos rfl] at this
  exact this
theorem idx_all {ns : List Int} (h : ∀ k ∈ ns, 0 ≤ k) : idxs (eI ns) = true := by
  rw [idxs_ok]; exact List.all_eq_true.mpr fun k hk => decide_eq_true (h k hk)
/-- a table whose numbers are from 0 on -/
structure NnT (t : Tab) : Prop where
  rows : ∀ r ∈ t.1, (∀ k ∈ r.1, 0 ≤ k) ∧ 0 ≤ r.2
  rest : 0 ≤ t.2
theorem fnForm_of {t : Tab} (h : NnT t) : fnForm (eTab t) = true := by
  unfold eTab fnForm
  simp only [Bool.and_eq_true, isIdx, decide_eq_true_eq, List.all_map, List.all_eq_true]
  refine ⟨h.rest, fun r hr => ?_⟩
  obtain ⟨h1, h2⟩ := h.rows r hr
  have := idx_all h1
  unfold idxs eI at this
  simp only at this
  simp [rowForm, eRow, eI, isIdx, h2]
  intro a ha
  exact h1 a ha
structure Nn (w : Wld) : Prop where
  l : ∀ k ∈ w.letters, 0 ≤ k
  i : ∀ k ∈ w.inputs, 0 ≤ k
  a : ∀ k ∈ w.anys, 0 ≤ k
  t : ∀ t ∈ w.tabs, NnT t
theorem form_of (h : Nn w) : worldForm (eW w) = true := by
  unfold eW worldForm
  simp only [isNum, idx_all h.l, idx_all h.i, idx_all h.a, Bool.true_and, Bool.and_eq_true, List.all_map, List.all_eq_true]
  exact fun t ht => fnForm_of (h.t t ht)
theorem TOk.nn {f : Fnc} {t : Tab} (h : TOk m f t) : NnT t := ⟨fun r hr => ⟨fun k hk => ((h.keys r hr).1.2.1 k hk).1, (h.keys r hr).2.1⟩, h.rest.1⟩
theorem WOk.nn (p : POk P) (k : WOk P m w) : Nn w := ⟨fun x hx => (k.lb x hx).1, fun x hx => (k.ib x hx).1, fun x hx => (k.ab x hx).1, fun t ht => by
  obtain ⟨f, _, tk⟩ := k.tab p ht
  exact tk.nn⟩
theorem WOk.form (p : POk P) (k : WOk P m w) : worldForm (eW w) = true := form_of (k.nn p)
theorem noRef_eRow (r : Row) : noRef (eRow r) = true := by
  unfold eRow
  simp only [noRef, noRefs_all, List.all_cons, List.all_nil, Bool.and_true, noRef_eI, Bool.true_and]
theorem noRef_eTab (t : Tab) : noRef (eTab t) = true := by
  unfold eTab
  simp only [noRef, noRefs_all, List.all_cons, List.all_nil, Bool.and_true, List.all_map]
  exact List.all_eq_true.mpr fun r _ => noRef_eRow r
theorem noRef_eW (w : Wld) : noRef (eW w) = true := by
  unfold eW
  simp only [noRef, noRefs_all, List.all_cons, List.all_nil, Bool.and_true, List.all_map, noRef_eI, Bool.true_and]
  exact List.all_eq_true.mpr fun t _ => noRef_eTab t
end
end AX

set_option Elab.async false
set_option linter.all false
set_option maxRecDepth 100000
set_option maxHeartbeats 4000000
namespace AX
open PySem PySem.Spec PyProof.Rows L2
theorem srt_up (ns : List Int) : ∃ ms : List Int, srt (ns.map D.int) = ms.map D.int ∧ ms.Perm ns ∧ ms.Pairwise (· ≤ ·) := by
  obtain ⟨ms, e, pm⟩ := srt_ints ns
  have hp : (ms.map D.int).Pairwise fun a b => (PySem.W.dataLe false toP) a b = true := by
    rw [← e]
    refine List.pairwise_mergeSort ?_ ?_ _
    · intro a b c; exact fun h1 h2 => (PySem.W.sortLe_total _ _ _).trans _ _ _ h1 h2
    · intro a b; have := (PySem.W.sortLe_total (PyProof.Rows.listOrd PyProof.Rows.itemOrd) false fun b => PySem.W.keyToks (toP b)).total a b; exact Bool.or_eq_true_iff.mpr this
  refine ⟨ms, e, pm, ?_⟩
  rw [List.pairwise_map] at hp
  refine hp.imp fun {a b} h => ?_
  have := congrFun (congrFun (PySem.W.dataLe_int (β := Int) id) a) b
  have h2 : PySem.W.dataLe false (fun b : Int => PyData.int (id b)) a b = true := h
  rw [this] at h2
  simpa using h2
theorem srt_eq {as bs : List Int} (p : as.Perm bs) : srt (as.map D.int) = srt (bs.map D.int) := by
  obtain ⟨ms, e1, p1, h1⟩ := srt_up as
  obtain ⟨ks, e2, p2, h2⟩ := srt_up bs
  rw [e1, e2]
  congr 1
  exact List.Perm.eq_of_pairwise (fun a b _ _ h1 h2 => by omega) h1 h2 (p1.trans (p.trans p2.symm))
theorem keyD_rev {f : Fnc} (h : f.how = "either") (ks : List Int) : keyD f ks.reverse = keyD f ks := by
  unfold keyD
  rw [if_pos h, if_pos h, srt_eq (List.reverse_perm ks)]
theorem keyD_perm (f : Fnc) (ks : List Int) : ∃ ms : List Int, keyD f ks = eI ms ∧ ms.Perm ks := by
  unfold keyD
  split
  · obtain ⟨ms, e, p, _⟩ := srt_up ks
    exact ⟨ms, by rw [e]; rfl, p⟩
  · exact ⟨ks, rfl, .refl _⟩
theorem valD_all {Q : D → Prop} {kvs : List (D × D)} {k d : D} (h : ∀ p ∈ kvs, Q p.2) (e : valD kvs k = some d) : Q d := by
  unfold valD at e
  obtain ⟨p, hp, rfl⟩ := Option.map_eq_some_iff.mp e
  exact h p (List.mem_of_find?_eq_some hp)
theorem putD_all {Q : D → Prop} {kvs : List (D × D)} {k d : D} (h : ∀ p ∈ kvs, Q p.2) (q : Q d) : ∀ p ∈ putD kvs k d, Q p.2 := by
  unfold putD
  split
  · intro p hp
    obtain ⟨r, hr, rfl⟩ := List.mem_map.mp hp
    split
    · exact q
    · exact h r hr
  · intro p hp
    rcases List.mem_append.mp hp with hp | hp
    · exact h p hp
    · simp at hp; rw [hp]; exact q
theorem putsD_all {Q : D → Prop} : ∀ {ps kvs : List (D × D)}, (∀ p ∈ kvs, Q p.2) → (∀ p ∈ ps, Q p.2) → ∀ p ∈ putsD kvs ps, Q p.2
  | [], _, h, _ => h
  | r :: ps, kvs, h, g => by
    show ∀ p ∈ putsD (putD kvs r.1 r.2) ps, Q p.2
    exact putsD_all (putD_all h (g r (by simp))) fun p hp => g p (by simp [hp])
theorem applyT_in {m : Int} {f g : Fnc} {t : Tab} (tk : TOk m g t) (ws : List Int) : ∃ v : Int, applyT f t ws = .int v ∧ 0 ≤ v ∧ v < m := by
  have h : ∀ p ∈ putsD [] (t.1.map fun r => (eI r.1, D.int r.2)), ∃ v : Int, p.2 = .int v ∧ 0 ≤ v ∧ v < m := putsD_all (Q := fun d => ∃ v : Int, d = .int v ∧ 0 ≤ v ∧ v < m) (by simp) fun p hp => by
    obtain ⟨r, hr, rfl⟩ := List.mem_map.mp hp
    exact ⟨r.2, rfl, (tk.keys r hr).2⟩
  unfold applyT
  cases e : valD (putsD [] (t.1.map fun r => (eI r.1, D.int r.2))) (keyD f ws) with
  | none => exact ⟨t.2, rfl, tk.rest⟩
  | some d =>
    obtain ⟨v, rfl, hv⟩ := valD_all (Q := fun d => ∃ v : Int, d = .int v ∧ 0 ≤ v ∧ v < m) h e
    exact ⟨v, rfl, hv⟩
/-! ### worlds called otherwise -/
section
variable {P : Prg} {m : Int} {w : Wld} {o : List Int}
theorem atO_dig (hm : (o.length : Int) = m) (m6 : m ≤ 6) (p : o.Perm ((List.range o.length).map fun i => ((i : Nat) : Int))) {k : Int} (h : 0 ≤ k ∧ k < m) : Dig (atO o k) := by
  have hk : k.toNat < o.length := by omega
  have e : atO o k = o[k.toNat] := by unfold atO; rw [List.getD_eq_getElem?_getD, List.getElem?_eq_getElem hk]; rfl
  rw [e]
  have := p.mem_iff.mp (List.getElem_mem hk)
  obtain ⟨i, hi, e2⟩ := List.mem_map.mp this
  have := List.mem_range.mp hi
  rw [← e2]
  exact ⟨by omega, by omega⟩
theorem otherRows_sm (hm : (o.length : Int) = m) (m6 : m ≤ 6) (p : o.Perm ((List.range o.length).map fun i => ((i : Nat) : Int))) {f : Fnc} (fp : f.p ≤ 3) : ∀ {rs : List Row}, (∀ r ∈ rs, (r.1.length = f.p ∧ (∀ k ∈ r.1, 0 ≤ k ∧ k < m)) ∧ 0 ≤ r.2 ∧ r.2 < m) →
    ∃ rs' : List Row, rs.map (otherRow f o) = rs'.map eRow ∧ ∀ r ∈ rs', r.1.length ≤ 3 ∧ (∀ k ∈ r.1, Dig k) ∧ Dig r.2
  | [], _ => ⟨[], rfl, by simp⟩
  | r :: rs, h => by
    obtain ⟨rs', e, q⟩ := otherRows_sm hm m6 p fp (rs := rs) fun x hx => h x (by simp [hx])
    obtain ⟨⟨h1, h2⟩, h3⟩ := h r (by simp)
    obtain ⟨ms, em, pm⟩ := keyD_perm f (r.1.map (atO o))
    refine ⟨(ms, atO o r.2) :: rs', by rw [List.map_cons, List.map_cons, e]; unfold otherRow; rw [em]; rfl, fun x hx => ?_⟩
    rcases List.mem_cons.mp hx with rfl | hx
    · refine ⟨by rw [pm.length_eq, List.length_map, h1]; exact fp, fun k hk => ?_, atO_dig hm m6 p h3⟩
      obtain ⟨k', hk', rfl⟩ := List.mem_map.mp (pm.mem_iff.mp hk)
      exact atO_dig hm m6 p (h2 k' hk')
    · exact q x hx
theorem otherT_sm (hm : (o.length : Int) = m) (m6 : m ≤ 6) (p : o.Perm ((List.range o.length).map fun i => ((i : Nat) : Int))) {f : Fnc} {t : Tab} (fp : f.p ≤ 3) (tk : TOk m f t) : ∃ t', otherT f o t = eTab t' ∧ SmT t' := by
  obtain ⟨rs, e, q⟩ := otherRows_sm hm m6 p fp (rs := t.1) fun r hr => ⟨⟨(tk.keys r hr).1.1, (tk.keys r hr).1.2.1⟩, (tk.keys r hr).2⟩
  have ps := srt_perm (t.1.map (otherRow f o))
  rw [e] at ps
  obtain ⟨rs', e', ps'⟩ : ∃ rs' : List Row, srt (rs.map eRow) = rs'.map eRow ∧ rs'.Perm rs := by
    refine ⟨(srt (rs.map eRow)).map dRow, ?_, ?_⟩
    · rw [List.map_map]
      have : ∀ x ∈ srt (rs.map eRow), eRow (dRow x) = x := fun x hx => by
        obtain ⟨r, _, rfl⟩ := List.mem_map.mp (ps.mem_iff.mp hx)
        rw [dRow_eRow]
      exact (List.map_id _).symm.trans (List.map_congr_left fun x hx => (this x hx).symm)
    · have := ps.map dRow
      rw [List.map_map] at this
      have e2 : rs.map (dRow ∘ eRow) = rs := by simp [Function.comp_def]
      rwa [e2] at this
  refine ⟨(rs', atO o t.2), by unfold otherT eTab; rw [e, e'], fun r hr => q r (ps'.mem_iff.mp hr), atO_dig hm m6 p tk.rest, ?_⟩
  have l1 := congrArg List.length e
  simp at l1
  show rs'.length ≤ 1000
  rw [ps'.length_eq, ← l1]
  exact tk.sz
theorem otherTs_sm (hm : (o.length : Int) = m) (m6 : m ≤ 6) (p : o.Perm ((List.range o.length).map fun i => ((i : Nat) : Int))) : ∀ {fs : List Fnc} {ts : List Tab}, (∀ f ∈ fs, f.p ≤ 3) → (∀ (i : Nat) (f : Fnc) (t : Tab), fs[i]? = some f → ts[i]? = some t → TOk m f t) →
    ∃ ts' : List Tab, List.zipWith (fun f t => otherT f o t) fs ts = ts'.map eTab ∧ ts'.length ≤ fs.length ∧ ∀ t ∈ ts', SmT t
  | [], _, _, _ => ⟨[], by simp, by simp, by simp⟩
  | _ :: _, [], _, _ => ⟨[], by simp, by simp, by simp⟩
  | f :: fs, t :: ts, h1, h2 => by
    obtain ⟨ts', e, l, q⟩ := otherTs_sm hm m6 p (fs := fs) (ts := ts) (fun x hx => h1 x (by simp [hx])) fun i f' t' ef et => h2 (i + 1) f' t' (by simpa using ef) (by simpa using et)
    obtain ⟨t', et, qt⟩ := otherT_sm hm m6 p (h1 f (by simp)) (h2 0 f t rfl rfl)
    exact ⟨t' :: ts', by rw [List.zipWith_cons_cons, et, e]; rfl, by simp; exact l, fun x hx => by
      rcases List.mem_cons.mp hx with rfl | hx
      · exact qt
      · exact q x hx⟩
theorem otherW_sm (pk : POk P) (k : WOk P m w) (hm : (o.length : Int) = m) (m6 : m ≤ 6) (p : o.Perm ((List.range o.length).map fun i => ((i : Nat) : Int))) : Shows (otherW P w o) := by
  obtain ⟨ts', e, l, q⟩ := otherTs_sm (fs := P.fs) (ts := w.tabs) hm m6 p (fun f hf => (fs_p pk.fs hf).2) k.tb
  have S := k.sml pk (by omega) m6
  have ew : otherW P w o = eW ⟨w.many, w.letters.map (atO o), w.inputs.map (atO o), w.anys.map (atO o), ts'⟩ := by
    unfold otherW eW
    rw [e]
  rw [ew]
  refine Sml.shows ⟨S.many, fun x hx => ?_, fun x hx => ?_, fun x hx => ?_, by simpa using S.ll, by simpa using S.il, by simpa using S.al, Nat.le_trans l pk.fl.2, q⟩
  · obtain ⟨y, hy, rfl⟩ := List.mem_map.mp hx
    exact atO_dig hm m6 p (k.lb y hy)
  · obtain ⟨y, hy, rfl⟩ := List.mem_map.mp hx
    exact atO_dig hm m6 p (k.ib y hy)
  · obtain ⟨y, hy, rfl⟩ := List.mem_map.mp hx
    exact atO_dig hm m6 p (k.ab y hy)
theorem leastW_sm (S : Sml w) : Shows (eW (leastW w)) := by
  refine Sml.shows ⟨S.many, S.l, S.i, S.a, S.ll, S.il, S.al, by unfold leastW; simpa using S.tl, fun t ht => ?_⟩
  obtain ⟨t', ht', rfl⟩ := List.mem_map.mp ht
  have q := S.t t' ht'
  refine ⟨fun r hr => q.rows r (List.mem_filter.mp hr).1, q.rest, Nat.le_trans (List.length_filter_le _ _) q.sz⟩
/-! ### bent tables -/
theorem bent_fns {ts : List Tab} {b : Tab} {n : Nat} (ef : P.fs[n]? = some kF) (et : ts[n]? = some b) (hb : rightFn kF m b = false) : rightFns P.fs m ts = false := by
  unfold rightFns
  split
  · rfl
  · refine List.all_eq_false.mpr ⟨(kF, b), ?_, by simp [hb]⟩
    exact List.mem_iff_getElem?.mpr ⟨n, by rw [List.getElem?_zip_eq_some]; exact ⟨ef, et⟩⟩
theorem bent_len {ts : List Tab} (h : ts.length ≠ P.fs.length) : rightFns P.fs m ts = false := by
  unfold rightFns
  rw [if_pos h]
end
/-- the tables that the law bends -/
def bentTabs (m : Int) : List Tab := [([([0, 0], 0)], 0), ([([0, 0, m], 0)], 0), ([([0, 0, 1], 0), ([0, 0, 0], 0)], 0), ([([m - 1, m - 1, m - 1], 0), ([m - 1, m - 1, m - 1], 0)], 0), ([([m - 1, m - 1, m - 1], m)], 0), ([], m)]
theorem lex_irr : ∀ a : List Int, HT.lexLt a a = false
  | a => by rw [lexLt_lt]; simp
theorem bent_wrong {m : Int} {t : Tab} (h : t ∈ bentTabs m) : rightFn kF m t = false := by
  simp only [bentTabs, List.mem_cons, List.not_mem_nil, or_false] at h
  rcases h with rfl | rfl | rfl | rfl | rfl | rfl
  · simp [rightFn, rightRow, kF]
  · simp [rightFn, rightRow, kF]
  · have e : HT.lexLt [0, 0, 1] [0, 0, 0] = false := by decide
    simp [rightFn, rightRow, kF, rising, e]
  · simp [rightFn, rightRow, kF, rising, lex_irr]
  · simp [rightFn, rightRow, kF]
  · simp [rightFn]
theorem bent_nn {m : Int} (m0 : 0 < m) {t : Tab} (h : t ∈ bentTabs m) : NnT t := by
  simp only [bentTabs, List.mem_cons, List.not_mem_nil, or_false] at h
  rcases h with rfl | rfl | rfl | rfl | rfl | rfl <;> refine ⟨?_, ?_⟩ <;> simp <;> omega
end AX

set_option Elab.async false
set_option linter.all false
set_option maxRecDepth 100000
set_option maxHeartbeats 4000000
namespace AX
open PySem PySem.Spec PyProof.Rows L2
section
variable {b : Addr} {P : Prg} {m : Int} {w : Wld} {σ : ASt} {h : AH} {E : AEnds} {CB CT CN : Addr}
theorem rEqB_same {f : Bool → Bool} {x : D} {R : DK} {h : AH} (hx : okd 60 x = true) (nx : nobl x = true) (nr : ∀ a, x ≠ .ref a) (q : R (.bl (f true)) h) : rEqB f x x h R := by
  refine rEqB_plain hx hx nx nx ?_
  simpa using q
theorem Sml.nobl (S : Sml w) : nobl (eW w) = true := it_nobl _ S.shows.it
theorem eW_noref (w : Wld) : ∀ a, eW w ≠ .ref a := by intro a; unfold eW; simp
theorem map_eTab_inj {a b : List Tab} (h : a.map eTab = b.map eTab) : a = b := by
  have := congrArg (List.map dTab) h
  simpa [List.map_map, Function.comp_def] using this
theorem eW_inj {w w' : Wld} (h : eW w = eW w') : w = w' := by
  unfold eW at h
  simp only [D.tup.injEq, List.cons.injEq, D.int.injEq, and_true] at h
  obtain ⟨h1, h2, h3, h4, h5⟩ := h
  obtain ⟨m, l, i, a, t⟩ := w
  obtain ⟨m', l', i', a', t'⟩ := w'
  simp only at h1 h2 h3 h4 h5
  rw [h1, eI_inj h2, eI_inj h3, eI_inj h4, map_eTab_inj h5]
def l3 : AS := aSet 3 (aCall sp__law_wide_frame AX0 (aCons (aVar 1) aNil))
theorem l3_ok (e1 : σ[1]? = some (some (.ref b))) (bg : Bag h b) (q : ∀ P h', POk P → Bag h' b → Fr1 b h h' → E.nx (σ.set 3 (some (eP P))) h') : l3 E σ h := by
  unfold l3
  simp [e1]
  exact ⟨b, rfl, bg, q⟩
def l4 : AS := aSet 4 (aOp rAdd (aOp rAdd (aCB cLen (aCons (aOp rIx (aVar 3) (aC (.int 1))) aNil)) (aC (.int 1))) (aCall sp__law_take AX0 (aCons (aVar 1) (aCons (aC (.int 3)) aNil))))
theorem l4_ok (e1 : σ[1]? = some (some (.ref b))) (e3 : σ[3]? = some (some (eP P))) (bg : Bag h b) (q : ∀ v h', 0 ≤ v → v < 3 → Bag h' b → Fr1 b h h' → E.nx (σ.set 4 (some (.int ((P.letters.length : Int) + 1 + v)))) h') : l4 E σ h := by
  unfold l4
  simp [e1, e3]
  simp [eP, rAdd]
  exact ⟨b, 3, rfl, by decide, by decide, bg, fun v h' v0 v1 bg' f => q v h' v0 v1 bg' f⟩
def l5 : AS := aSet 5 (aCall sp__law_world AX0 (aCons (aVar 1) (aCons (aVar 3) (aCons (aVar 4) (aCons (aCall sp__law_take AX0 (aCons (aVar 1) (aCons (aC (.int 4)) aNil))) aNil)))))
theorem l5_ok (e1 : σ[1]? = some (some (.ref b))) (e3 : σ[3]? = some (some (eP P))) (e4 : σ[4]? = some (some (.int m))) (bg : Bag h b) (pk : POk P) (ml : (P.letters.length : Int) < m) (m6 : m ≤ 6) (q : ∀ w h', WOk P m w → Bag h' b → Fr1 b h h' → E.nx (σ.set 5 (some (eW w))) h') : l5 E σ h := by
  unfold l5
  simp [e1, e3, e4]
  refine ⟨b, 4, rfl, by decide, by decide, bg, fun v h' v0 v1 bg' f => ?_⟩
  exact ⟨b, P, m, v, rfl, bg', pk, ml, m6, v0, by omega, fun w h2 k bg2 f2 => q w h2 k bg2 (f.trans f2)⟩
def l6 (CB CT : Addr) : AS := aIfS (aTest (aOp rNe (aCall (sp_checked_world CB CT) AX0 (aCons (aVar 3) (aCons (aVar 5) aNil))) (aVar 5))) (aRet (aC (.bl false))) aNext
theorem l6_ok (e3 : σ[3]? = some (some (eP P))) (e5 : σ[5]? = some (some (eW w))) (pk : POk P) (k : WOk P m w) (m0 : 0 < m) (m6 : m ≤ 6) (q : E.nx σ h) : l6 CB CT E σ h := by
  unfold l6
  simp [e3, e5]
  have S := k.sml pk (by omega) m6
  refine ⟨P, eW w, rfl, fs_ok pk.fs, .inl (noRef_eW w), fun z => ?_, fun w' hw hf => ?_⟩
  · rw [k.form pk] at z; cases z
  · obtain rfl := eW_inj hw
    refine ⟨fun _ => k.ln, fun z => ?_, fun _ => ⟨fun x hx => ?_, fun _ => ?_⟩⟩
    · rw [k.many] at z; omega
    · rw [fault_none k m0] at hx; cases hx
    · exact rEqB_same S.shows.ok S.nobl (eW_noref w) (by simpa using q)
/-! ### six applications -/
def l7a : AS := aAsg (aFg (aCall sp__law_some AX0 (aCons (aVar 1) (aCons (aCB cList (aCons (aOp rIx (aVar 3) (aC (.int 0))) aNil)) aNil)))) (aGTup 3 (aGCons (aName 7) (aGCons (aName 8) (aGCons (aName 9) aGNil))))
theorem l7a_ok (e1 : σ[1]? = some (some (.ref b))) (e3 : σ[3]? = some (some (eP P))) (bg : Bag h b) (pk : POk P) (q : ∀ f h', f ∈ P.fs → Bag h' b → Fr1 b h h' → E.nx (((σ.set 7 (some (.str f.f))).set 8 (some (.int f.p))).set 9 (some (.str f.how))) h') : l7a E σ h := by
  unfold l7a
  simp only [aAsg_def, aFg, aCall_def, aCons_def, aVar_def, e1, e3, aCB_def, aOp_def, aC_def, aNil_def]
  simp only [eP, rIxT_def, atI_lit0]
  refine ⟨P.fs.map eFn, rfl, fun p hp => ?_⟩
  have pb := bg.not hp
  have f0 : Fr1 b h (aup h p (.lst (P.fs.map eFn))) := Fr1.refl.new hp pb
  refine ⟨b, .ref p, P.fs.map eFn, rfl, fun z => by cases z; exact pb rfl, f0.bag bg, seqOf_ref aup_same, ?_, ?_, fun d h' hd bg' f1 => ⟨h', .refl _, ?_⟩⟩
  · have := pk.fl; intro z; rw [List.map_eq_nil_iff] at z; rw [z] at this; simp at this
  · have := pk.fl; simp; omega
  · obtain ⟨f, hf, rfl⟩ := List.mem_map.mp hd
    simp [eFn]
    exact q f h' hf bg' (f0.trans f1)
def l7b : AS := aSet 10 (aFg (aCB cTuple (aCons (aLc (iRg1 (aCons (aVar 8) aNil)) (aName 11) aYes (aCall sp__law_take AX0 (aCons (aVar 1) (aCons (aVar 4) aNil))) [11]) aNil)))
theorem l7b_ok {p : Nat} (hl : σ.length = 29) (e1 : σ[1]? = some (some (.ref b))) (e4 : σ[4]? = some (some (.int m))) (e8 : σ[8]? = some (some (.int p))) (p3 : p ≤ 3) (bg : Bag h b) (m0 : 0 < m) (m6 : m ≤ 6) (q : ∀ ws h', ws.length = p → (∀ x ∈ ws, 0 ≤ x ∧ x < m) → Bag h' b → Fr1 b h h' → E.nx (σ.set 10 (some (eI ws))) h') : l7b E σ h := by
  unfold l7b
  simp only [aSet_def]
  refine tupBag (b := b) (xs := rgD 0 p) (s := fun h => some (rgD 0 p)) (Drawn m) bg (fun R' hr => ?_) (fun h' f => rfl) (fun d hd h' f bg' K hK => ?_) fun ys h' o f bg' => ?_
  · unfold iRg1
    simp [e8]
    have hz : (rgD 0 p).length ≤ sizeLine := by
      rw [rgD_length]
      have : 1000 ≤ sizeLine := by decide
      omega
    first
      | exact hr hz
      | exact ⟨by omega, by omega, hr hz⟩
      | exact ⟨by omega, hr hz⟩
  · unfold lcBody
    simp only [aName_def, aYes_def, if_true]
    refine lcB_take (b := b) (m := m) (by simp [awipe, e1]) (fun K q => by simp [awipe, e4]; exact q) m0 (by omega) bg' fun v h'' v0 v1 f2 => hK _ _ ⟨v, rfl, v0, v1⟩ f2
  · obtain ⟨vs, rfl, hl, hv⟩ := outs_drawn o
    exact q vs h' (by rw [hl, rgD_length]) hv bg' f
def l7c : AS := aSet 12 (aFg (aCall sp__law_applied AX0 (aCons (aVar 3) (aCons (aVar 5) (aCons (aVar 7) (aCons (aCB cList (aCons (aVar 10) aNil)) aNil))))))
theorem fs_names {fs : List Fnc} (h : FsOk fs) : (fs.map (·.f)).Nodup := by
  obtain ⟨l, sl, rfl⟩ := h
  rw [List.map_append]
  have h1 : (l.map (·.f)).Sublist ([fF, gF, hF].map (·.f)) := sl.map _
  have : (l.map (·.f) ++ [kF].map (·.f)).Sublist (([fF, gF, hF].map (·.f)) ++ [kF].map (·.f)) := h1.append (.refl _)
  exact this.nodup (by decide)
theorem fs_first {fs : List Fnc} (h : FsOk fs) {i j : Nat} {f g : Fnc} (ei : fs[i]? = some f) (ej : fs[j]? = some g) (hf : g.f = f.f) : j = i := by
  have nd := fs_names h
  have hi := (List.getElem?_eq_some_iff.mp ei)
  have hj := (List.getElem?_eq_some_iff.mp ej)
  obtain ⟨hi, e1⟩ := hi
  obtain ⟨hj, e2⟩ := hj
  have pw := List.pairwise_iff_getElem.mp nd
  rcases Nat.lt_trichotomy j i with z | z | z
  · have := pw j i (by simpa using hj) (by simpa using hi) z
    simp [e1, e2, hf] at this
  · exact z
  · have := pw i j (by simpa using hi) (by simpa using hj) z
    simp [e1, e2, hf] at this
theorem fs_find {fs : List Fnc} (h : FsOk fs) {i : Nat} {f : Fnc} (ei : fs[i]? = some f) : (fs.findIdx? fun g => g.f == f.f) = some i := by
  rw [List.findIdx?_eq_some_iff_getElem]
  obtain ⟨hi, e1⟩ := List.getElem?_eq_some_iff.mp ei
  refine ⟨hi, by simp [e1], fun j hj => ?_⟩
  simp only [Bool.not_eq_true, beq_eq_false_iff_ne, ne_eq]
  intro z
  have := fs_first h ei (List.getElem?_eq_getElem (Nat.lt_trans hj hi)) z
  omega
theorem l7c_ok {f : Fnc} {t : Tab} {i : Nat} {ws : List Int} (e3 : σ[3]? = some (some (eP P))) (e5 : σ[5]? = some (some (eW w))) (e7 : σ[7]? = some (some (.str f.f))) (e10 : σ[10]? = some (some (eI ws))) (pk : POk P) (ef : P.fs[i]? = some f) (et : w.tabs[i]? = some t) (q : E.nx (σ.set 12 (some (applyT f t ws))) h) : l7c E σ h := by
  unfold l7c
  simp only [aSet_def, aFg, aCall_def, aCons_def, aVar_def, e3, e5, e7, e10, aCB_def, aNil_def]
  refine ⟨ws.map D.int, rfl, fun p hp => ?_⟩
  refine ⟨P, w, f, .ref p, ws, i, t, rfl, seqOf_ref aup_same, ?_, ef, fun j g hj eg z => ?_, et, h, .new hp, q⟩
  · refine List.all_eq_true.mpr fun g hg => ?_
    have := fs_ok pk.fs g hg
    rw [this.2.1, this.2.2]; rfl
  · have := fs_first pk.fs ef eg z
    omega
def l7d (CN : Addr) : AS := aIfS (aOr (aNot (aTest (aCall sp__law_alike AX0 (aCons (aCall (sp_applied CN) AX0 (aCons (aVar 3) (aCons (aVar 5) (aCons (aVar 7) (aCons (aVar 10) aNil))))) (aCons (aVar 12) aNil))))) (aAnd (aTest (aOp rEq (aVar 9) (aC (.str "either")))) (aFgT (aTest (aOp rNe (aFg (aCall (sp_applied CN) AX0 (aCons (aVar 3) (aCons (aVar 5) (aCons (aVar 7) (aCons (aRev (aVar 10)) aNil)))))) (aVar 12)))))) (aRet (aC (.bl false))) aNext
theorem applied_ok {f : Fnc} {t : Tab} {i : Nat} {ws : List Int} {R : DK} {E : AXK} (pk : POk P) (k : WOk P m w) (ef : P.fs[i]? = some f) (et : w.tabs[i]? = some t) (wl : ws.length = f.p) (wb : ∀ x ∈ ws, 0 ≤ x ∧ x < m) (q : R (applyT f t ws) h) : sp_applied CN [eP P, eW w, .str f.f, eI ws] h R E := by
  have hm := List.mem_of_getElem? ef
  refine ⟨P, w, f.f, ws, rfl, fs_ok pk.fs, (fs_ok pk.fs f hm).2.2, k.tl, fun z => ?_, fun j g u ej eg eu => ?_⟩
  · rw [fs_find pk.fs ef] at z; cases z
  · rw [fs_find pk.fs ef] at ej; cases ej
    rw [ef] at eg; cases eg
    rw [et] at eu; cases eu
    have hc : (ws.all fun n => decide (0 ≤ n)) = true ∧ ws.length = f.p ∧ (ws.all fun n => decide (n < w.many)) = true :=
      ⟨List.all_eq_true.mpr fun x hx => decide_eq_true (wb x hx).1, wl, by rw [k.many]; exact all_below wb⟩
    exact ⟨fun z => absurd hc z, fun _ => q⟩
theorem l7d_ok {f : Fnc} {t : Tab} {i : Nat} {ws : List Int} (e3 : σ[3]? = some (some (eP P))) (e5 : σ[5]? = some (some (eW w))) (e7 : σ[7]? = some (some (.str f.f))) (e9 : σ[9]? = some (some (.str f.how))) (e10 : σ[10]? = some (some (eI ws))) (e12 : σ[12]? = some (some (applyT f t ws))) (pk : POk P) (k : WOk P m w) (m6 : m ≤ 6) (ef : P.fs[i]? = some f) (et : w.tabs[i]? = some t) (wl : ws.length = f.p) (wb : ∀ x ∈ ws, 0 ≤ x ∧ x < m)
    (q : E.nx σ h) : l7d CN E σ h := by
  have hm := List.mem_of_getElem? ef
  obtain ⟨v, ev, v0, v1⟩ := applyT_in (f := f) (k.tb i f t ef et) ws
  unfold l7d
  simp only [aIfS_def, aOr_def, aNot_def, aAnd_def, aTest_def, aCall_def, aCons_def, aVar_def, e3, e5, e7, e9, e10, e12, aNil_def, aOp_def, aC_def]
  refine applied_ok pk k ef et wl wb ⟨_, rfl, ?_, ?_⟩
  · rw [ev]; exact (Sh.int (n := 0) (dig_of m6 ⟨v0, v1⟩)).shows (by omega) (by omega)
  · simp only [Bool.not_true, if_false, Bool.false_eq_true]
    show rEqB id _ _ _ _
    rw [rEqB_str]
    refine ⟨(fs_ok pk.fs f hm).2.1, by decide +kernel, ?_⟩
    by_cases he : f.how = "either"
    · simp only [he, decide_true, id, if_true]
      unfold aFgT aFg
      simp only [aTest_def, aOp_def, aCall_def, aCons_def, aVar_def, e3, e5, e7, e10, e12, aNil_def, aRev]
      have er : (D.tup ((ws.map D.int).reverse)) = eI ws.reverse := by unfold eI; rw [List.map_reverse]
      unfold eI
      simp only
      rw [er]
      refine applied_ok pk k ef et (by simpa using wl) (fun x hx => wb x (by simpa using hx)) ⟨h, .refl _, ?_⟩
      have e2 : applyT f t ws.reverse = applyT f t ws := by unfold applyT; rw [keyD_rev he]
      rw [e2, ev]
      refine rEqB_same rfl rfl (fun a z => by cases z) ⟨h, .refl _, ?_⟩
      simpa using q
    · simp only [he, decide_false, id, if_false, Bool.false_eq_true]
      simpa using q
end
end AX

set_option Elab.async false
set_option linter.all false
set_option maxRecDepth 100000
set_option maxHeartbeats 4000000
namespace AX
open PySem PySem.Spec PyProof.Rows L2
/-! ### loops by a word that does not count -/
theorem forRg {n : Int} {i : Nat} {body : AS} {E : AEnds} {σ : ASt} {h : AH} (I : ASt → AH → Prop) (n0 : 0 ≤ n) (n1 : n ≤ 16777216) (hI : I σ h)
    (step : ∀ (k : Nat) σ h, (k : Int) < n → I σ h → ∀ E' : AEnds, E'.rt = E.rt → (∀ σ' h', I σ' h' → E'.nx σ' h') → body E' (σ.set i (some (.int k))) h) (fin : ∀ σ h, I σ h → E.nx σ h) :
    aFor (iRg1 (aCons (aC (.int n)) aNil)) (aName i) body E σ h := by
  unfold aFor iRg1
  simp only [aCons_def, aC_def, aNil_def]
  refine ⟨by omega, by omega, rgD 0 n.toNat, rfl, fun _ σ h => I σ h, hI, fun k σ h hk => ⟨rfl, ?_⟩⟩
  rw [rgD_get]
  by_cases hn : k < n.toNat
  · rw [if_pos hn]
    have e : (0 : Int) + (k : Nat) = k := by omega
    simp only [aName_def, e]
    exact step k σ h (by omega) hk _ rfl fun σ' h' hi => Fgt.of hi
  · rw [if_neg hn]
    exact fin σ h hk
theorem forEn {te : AE} {i j : Nat} {body : AS} {E : AEnds} {σ : ASt} {h : AH} {xs : List D} (I : ASt → AH → Prop) (he : ∀ R : DK, R (.tup xs) h → te σ h R) (hI : I σ h)
    (step : ∀ (k : Nat) (d : D) σ h, xs[k]? = some d → I σ h → ∀ E' : AEnds, E'.rt = E.rt → (∀ σ' h', I σ' h' → E'.nx σ' h') → body E' ((σ.set i (some (.int k))).set j (some d)) h) (fin : ∀ σ h, I σ h → E.nx σ h) :
    aFor (iEn te) (aGTup 2 (aGCons (aName i) (aGCons (aName j) aGNil))) body E σ h := by
  unfold aFor iEn
  refine he _ ⟨xs, rfl, fun hz => ⟨enD xs, rfl, fun _ σ h => I σ h, hI, fun k σ h hk => ⟨rfl, ?_⟩⟩⟩
  rw [enD_get]
  cases ed : xs[k]? with
  | none => exact fin σ h hk
  | some d =>
    simp only [Option.map_some, aGTup_def, aGCons_def, aName_def, aGNil_def]
    exact ⟨rfl, step k d σ h ed hk _ rfl fun σ' h' hi => Fgt.of hi⟩
section
variable {b T : Addr} {P : Prg} {m : Int} {w : Wld} {σ : ASt} {h : AH} {E : AEnds} {CB CT CN : Addr}
/-- what the law holds within a lap -/
structure LI (b T : Addr) (P : Prg) (m : Int) (w : Wld) (σ : ASt) (h : AH) : Prop where
  len : σ.length = 29
  e1 : σ[1]? = some (some (.ref b))
  e3 : σ[3]? = some (some (eP P))
  e4 : σ[4]? = some (some (.int m))
  e5 : σ[5]? = some (some (eW w))
  bag : Bag h b
  tab : h T = some (.tab q_law)
theorem bag_ne {h : AH} {b T : Addr} {q : Str} (bg : Bag h b) (t : h T = some (.tab q)) : T ≠ b := by
  obtain ⟨a, x, y, z, cs, e, _⟩ := bg
  rintro rfl
  rw [t] at e; cases e
theorem LI.set {i : Nat} {o : Option D} (I : LI b T P m w σ h) (hi : i ≠ 1 ∧ i ≠ 3 ∧ i ≠ 4 ∧ i ≠ 5) : LI b T P m w (σ.set i o) h :=
  ⟨by simp [I.len], by rw [List.getElem?_set_ne hi.1]; exact I.e1, by rw [List.getElem?_set_ne hi.2.1]; exact I.e3, by rw [List.getElem?_set_ne hi.2.2.1]; exact I.e4, by rw [List.getElem?_set_ne hi.2.2.2]; exact I.e5, I.bag, I.tab⟩
theorem LI.fr {h' : AH} (I : LI b T P m w σ h) (bg : Bag h' b) (f : Fr1 b h h') : LI b T P m w σ h' := ⟨I.len, I.e1, I.e3, I.e4, I.e5, bg, f.1 T _ (bag_ne I.bag I.tab) I.tab⟩
theorem LI.at {i : Nat} {d : D} (I : LI b T P m w σ h) (hi : i < 29) : (σ.set i (some d))[i]? = some (some d) := List.getElem?_set_self (by rw [I.len]; exact hi)
def l7 (CN : Addr) : AS := aFor (iRg1 (aCons (aC (.int 6)) aNil)) (aName 6) (aSeq l7a (aSeq l7b (aSeq l7c (l7d CN))))
theorem l7_ok (I : LI b T P m w σ h) (pk : POk P) (k : WOk P m w) (m0 : 0 < m) (m6 : m ≤ 6) (q : ∀ σ' h', LI b T P m w σ' h' → E.nx σ' h') : l7 CN E σ h := by
  refine forRg (LI b T P m w) (by decide) (by decide) I (fun j σ h _ I E' _ nx => ?_) q
  simp only [aSeq_def]
  have I1 := I.set (i := 6) (o := some (.int j)) (by decide)
  refine l7a_ok (b := b) (P := P) I1.e1 I1.e3 I1.bag pk fun f h1 hf bg1 f1 => ?_
  obtain ⟨i, hi⟩ := List.mem_iff_getElem?.mp hf
  have I2 := ((((I1.fr bg1 f1).set (i := 7) (o := some (.str f.f)) (by decide)).set (i := 8) (o := some (.int f.p)) (by decide)).set (i := 9) (o := some (.str f.how)) (by decide))
  have e7 : (((((σ.set 6 (some (.int j))).set 7 (some (.str f.f))).set 8 (some (.int f.p))).set 9 (some (.str f.how))))[7]? = some (some (.str f.f)) := by simp [I.len]
  have e8 : (((((σ.set 6 (some (.int j))).set 7 (some (.str f.f))).set 8 (some (.int f.p))).set 9 (some (.str f.how))))[8]? = some (some (.int f.p)) := by simp [I.len]
  have e9 : (((((σ.set 6 (some (.int j))).set 7 (some (.str f.f))).set 8 (some (.int f.p))).set 9 (some (.str f.how))))[9]? = some (some (.str f.how)) := by simp [I.len]
  generalize ((((σ.set 6 (some (.int j))).set 7 (some (.str f.f))).set 8 (some (.int f.p))).set 9 (some (.str f.how))) = σ2 at *
  refine l7b_ok (b := b) (m := m) (p := f.p) I2.len I2.e1 I2.e4 e8 (fs_p pk.fs hf).2 I2.bag m0 m6 fun ws h2 wl wb bg2 f2 => ?_
  have hi2 : i < w.tabs.length := by rw [k.tl]; exact (List.getElem?_eq_some_iff.mp hi).1
  have et := List.getElem?_eq_getElem hi2
  have I3 := (I2.fr bg2 f2).set (i := 10) (o := some (eI ws)) (by decide)
  refine l7c_ok (P := P) (w := w) (f := f) (t := w.tabs[i]) (i := i) (ws := ws) I3.e3 I3.e5 (by rw [List.getElem?_set_ne (by decide)]; exact e7) (I2.at (by decide)) pk hi et ?_
  have I4 := I3.set (i := 12) (o := some (applyT f w.tabs[i] ws)) (by decide)
  refine l7d_ok (P := P) (w := w) (m := m) (f := f) (t := w.tabs[i]) (i := i) (ws := ws) I4.e3 I4.e5 (by rw [List.getElem?_set_ne (by decide), List.getElem?_set_ne (by decide)]; exact e7) (by rw [List.getElem?_set_ne (by decide), List.getElem?_set_ne (by decide)]; exact e9)
    (by rw [List.getElem?_set_ne (by decide)]; exact I2.at (by decide)) (I3.at (by decide)) pk k m6 hi et wl wb (nx _ _ I4)
def l8 (CN : Addr) : AS := aFor (iEn (aOp rIx (aVar 3) (aC (.int 1)))) (aGTup 2 (aGCons (aName 13) (aGCons (aName 14) aGNil))) (aIfS (aTest (aOp rNe (aCall (sp_letter_worth CN) AX0 (aCons (aVar 3) (aCons (aVar 5) (aCons (aVar 14) aNil)))) (aOp rIx (aOp rIx (aVar 5) (aC (.int 1))) (aVar 13)))) (aRet (aC (.bl false))) aNext)
theorem POk.lnd (p : POk P) : P.letters.Nodup := by
  obtain ⟨n, _, _, e⟩ := p.letters
  rw [e]; exact (List.take_sublist _ _).nodup (by decide)
theorem POk.ind (p : POk P) : P.inputs.Nodup := by
  obtain ⟨n, _, _, e⟩ := p.vars
  have := p.inputs
  rw [e] at this
  exact this.nodup ((List.take_sublist _ _).nodup (by decide))
theorem POk.lok (p : POk P) : (P.letters.all fun y => PyData.strOk y) = true := by
  obtain ⟨n, _, _, e⟩ := p.letters
  rw [e]
  exact List.all_eq_true.mpr fun y hy => List.all_eq_true.mp (show ((["nil", "yes", "zed"] : List Str).all fun y => PyData.strOk y) = true by decide +kernel) y (List.mem_of_mem_take hy)
theorem POk.iok (p : POk P) : (P.inputs.all fun y => PyData.strOk y) = true := by
  obtain ⟨n, _, _, e⟩ := p.vars
  have := p.inputs
  rw [e] at this
  exact List.all_eq_true.mpr fun y hy => List.all_eq_true.mp (show ((["a", "b", "c", "d"] : List Str).all fun y => PyData.strOk y) = true by decide +kernel) y (List.mem_of_mem_take (this.subset hy))
theorem nd_first {α : Type} {xs : List α} (nd : xs.Nodup) {i j : Nat} {x : α} (e : xs[i]? = some x) (e2 : xs[j]? = some x) : i = j := by
  have pw := List.pairwise_iff_getElem.mp nd
  obtain ⟨hi, e1⟩ := List.getElem?_eq_some_iff.mp e
  obtain ⟨hj, e2⟩ := List.getElem?_eq_some_iff.mp e2
  rcases Nat.lt_trichotomy i j with z | z | z
  · exact absurd (e1.trans e2.symm) (pw i j hi hj z)
  · exact z
  · exact absurd (e2.trans e1.symm) (pw j i hj hi z)
theorem l8_ok (I : LI b T P m w σ h) (pk : POk P) (k : WOk P m w) (q : ∀ σ' h', LI b T P m w σ' h' → E.nx σ' h') : l8 CN E σ h := by
  refine forEn (xs := P.letters.map D.str) (LI b T P m w) (fun R r => ?_) I (fun j d σ h ed I E' rt nx => ?_) q
  · simp [I.e3]
    simp [eP]
    exact r
  · rw [List.getElem?_map] at ed
    obtain ⟨x, ex, rfl⟩ := Option.map_eq_some_iff.mp ed
    have I2 := (I.set (i := 13) (o := some (.int j)) (by decide)).set (i := 14) (o := some (.str x)) (by decide)
    have hj : j < w.letters.length := by rw [k.ll]; exact (List.getElem?_eq_some_iff.mp ex).1
    have en := List.getElem?_eq_getElem hj
    simp only [aIfS_def, aTest_def, aOp_def, aCall_def, aCons_def, aVar_def, aNil_def, aC_def, I2.e3, I2.e5, (I.set (i := 13) (o := some (.int j)) (by decide)).at (show 14 < 29 by decide)]
    have e13 : ((σ.set 13 (some (D.int j))).set 14 (some (D.str x)))[13]? = some (some (.int j)) := by simp [I.len]
    refine ⟨P, w, x, rfl, k.ll, pk.lok, List.all_eq_true.mp pk.lok x (List.mem_of_getElem? ex), fun z => absurd (List.mem_of_getElem? ex) z, fun i n ei fi ew => ?_⟩
    obtain rfl := nd_first pk.lnd ex ei
    simp only [eW, rIxT_def, atI_lit1, e13]
    simp only [eI, rIxT_def, atI_at (show (w.letters.map D.int)[j]? = some (.int n) by rw [List.getElem?_map, ew]; rfl)]
    refine rEqB_same rfl rfl (fun a z => by cases z) ?_
    simpa using nx _ _ I2
def l9 (CN : Addr) : AS := aFor (iEn (aOp rIx (aVar 3) (aC (.int 3)))) (aGTup 2 (aGCons (aName 13) (aGCons (aName 15) aGNil))) (aIfS (aTest (aOp rNe (aCall (sp_input_worth CN) AX0 (aCons (aVar 3) (aCons (aVar 5) (aCons (aVar 15) aNil)))) (aOp rIx (aOp rIx (aVar 5) (aC (.int 2))) (aVar 13)))) (aRet (aC (.bl false))) aNext)
theorem l9_ok (I : LI b T P m w σ h) (pk : POk P) (k : WOk P m w) (q : ∀ σ' h', LI b T P m w σ' h' → E.nx σ' h') : l9 CN E σ h := by
  refine forEn (xs := P.inputs.map D.str) (LI b T P m w) (fun R r => ?_) I (fun j d σ h ed I E' rt nx => ?_) q
  · simp [I.e3]
    simp [eP]
    exact r
  · rw [List.getElem?_map] at ed
    obtain ⟨x, ex, rfl⟩ := Option.map_eq_some_iff.mp ed
    have I2 := (I.set (i := 13) (o := some (.int j)) (by decide)).set (i := 15) (o := some (.str x)) (by decide)
    have hj : j < w.inputs.length := by rw [k.il]; exact (List.getElem?_eq_some_iff.mp ex).1
    simp only [aIfS_def, aTest_def, aOp_def, aCall_def, aCons_def, aVar_def, aNil_def, aC_def, I2.e3, I2.e5, (I.set (i := 13) (o := some (.int j)) (by decide)).at (show 15 < 29 by decide)]
    have e13 : ((σ.set 13 (some (D.int j))).set 15 (some (D.str x)))[13]? = some (some (.int j)) := by simp [I.len]
    refine ⟨P, w, x, rfl, k.il, pk.iok, List.all_eq_true.mp pk.iok x (List.mem_of_getElem? ex), fun z => absurd (List.mem_of_getElem? ex) z, fun i n ei fi ew => ?_⟩
    obtain rfl := nd_first pk.ind ex ei
    simp only [eW, rIxT_def, atI_lit2, e13]
    simp only [eI, rIxT_def, atI_at (show (w.inputs.map D.int)[j]? = some (.int n) by rw [List.getElem?_map, ew]; rfl)]
    refine rEqB_same rfl rfl (fun a z => by cases z) ?_
    simpa using nx _ _ I2
end
end AX

set_option Elab.async false
set_option linter.all false
set_option maxRecDepth 100000
set_option maxHeartbeats 4000000
namespace AX
open PySem PySem.Spec PyProof.Rows L2
section
variable {b T : Addr} {P : Prg} {m : Int} {w : Wld} {σ : ASt} {h : AH} {E : AEnds} {CB CT CN : Addr} {o : List Int}
theorem rEqR {f : Bool → Bool} {x y : Addr} {xs ys : List Int} {R : DK} {h : AH} (ex : h x = some (.lst (xs.map D.int))) (ey : h y = some (.lst (ys.map D.int))) (q : R (.bl (f (decide (xs = ys)))) h) : rEqB f (.ref x) (.ref y) h R := by
  refine ⟨_, _, ex, ey, by rw [List.all_map]; exact List.all_eq_true.mpr fun _ _ => rfl, by rw [List.all_map]; exact List.all_eq_true.mpr fun _ _ => rfl, ?_⟩
  rw [eqvs_ints]; exact q
theorem ne_of_new {h : AH} {p q : Addr} {o : O} (e : aup h p o q = none) : q ≠ p := fun z => by rw [z, aup_same] at e; cases e
theorem of_new {h : AH} {p q : Addr} {o : O} (e : aup h p o q = none) : h q = none := by rwa [aup_ne (ne_of_new e)] at e
theorem len1 {x : D} : [x].length ≤ sizeLine := (show 1 ≤ sizeLine by decide)
theorem len2 {x y : D} : [x, y].length ≤ sizeLine := (show 2 ≤ sizeLine by decide)
/-! ### any_worth -/
def l10 (CN : Addr) : AS := aIfS (aFgT (aTest (aOp rNe (aLc (iRg1 (aCons (aC (.int 6)) aNil)) (aName 16) aYes (aCall (sp_any_worth CN) AX0 (aCons (aVar 5) (aCons (aVar 16) aNil))) [16]) (aSl (aOp rAdd (aCB cList (aCons (aOp rIx (aVar 5) (aC (.int 3))) aNil)) (aOp rMul (aLst (aCons (aC (.int 0)) aNil)) (aC (.int 6)))) aNoPart (aPart (aC (.int 6))))))) (aRet (aC (.bl false))) aNext
theorem six (ks : List Int) : ((List.range 6).map fun i => ks.getD i 0) = (ks ++ [0, 0, 0, 0, 0, 0]).take 6 := by
  apply List.ext_getElem
  · simp
  · intro i h1 h2
    simp at h1
    simp only [List.getElem_map, List.getElem_range, List.getElem_take]
    by_cases hi : i < ks.length
    · rw [List.getElem_append_left hi, List.getD_eq_getElem?_getD, List.getElem?_eq_getElem hi]; rfl
    · rw [List.getElem_append_right (by omega), List.getD_eq_getElem?_getD, List.getElem?_eq_none (by omega)]
      have : i - ks.length < 6 := by omega
      have z : ∀ j (hj : j < 6), ([0, 0, 0, 0, 0, 0] : List Int)[j] = 0 := by decide
      exact (z (i - ks.length) this).symm
theorem l10_ok (I : LI b T P m w σ h) (k : WOk P m w) (q : E.nx σ h) : l10 CN E σ h := by
  unfold l10
  simp only [aIfS_def, aFgT, aTest_def, aOp_def]
  refine aLc_pure (s := fun _ => some (rgD 0 6)) (xs := rgD 0 6) (h1 := h) (fun d => match d with | .int i => some (.int (w.anys.getD i.toNat 0)) | _ => none) (fun R' hr => ?_) (fun h' s => rfl) (fun d hd h' s K hK => ?_) fun p hp => ?_
  · unfold iRg1
    simp only [aCons_def, aC_def, aNil_def]
    exact ⟨by decide, by decide, hr (by decide)⟩
  · unfold rgD at hd
    obtain ⟨i, hi, rfl⟩ := List.mem_map.mp hd
    unfold lcBody
    have e16 : ((awipe σ [16]).set 16 (some (D.int (0 + (i : Nat)))))[16]? = some (some (.int (0 + (i : Nat)))) := List.getElem?_set_self (by rw [awipe_length, I.len]; decide)
    have e5 : ((awipe σ [16]).set 16 (some (D.int (0 + (i : Nat)))))[5]? = some (some (eW w)) := by rw [List.getElem?_set_ne (by decide)]; simp [awipe, I.e5]
    simp only [aName_def, aYes_def, if_true, aCall_def, aCons_def, aVar_def, aNil_def, e5, e16]
    exact ⟨w, _, rfl, by omega, hK h' (.refl _)⟩
  · have e1 : ((rgD 0 6).filterMap fun d => match d with | .int i => some (D.int (w.anys.getD i.toNat 0)) | _ => none) = ((List.range 6).map fun i => w.anys.getD i 0).map D.int := by
      unfold rgD
      generalize List.range 6 = l
      induction l with
      | nil => rfl
      | cons i l ih => rw [List.map_cons, List.filterMap_cons, ih]; simp
    rw [e1]
    simp only [aSl_def, aOp_def, aCB_def, aCons_def, aVar_def, I.e5, aC_def, aNil_def, aLst_def, aNoPart_def, aPart_def]
    simp only [eW, rIxT_def, atI_lit3]
    refine ⟨w.anys.map D.int, rfl, fun p2 hp2 => ⟨by decide, fun p3 hp3 => ?_⟩⟩
    have n21 : p2 ≠ p := ne_of_new hp2
    have n32 : p3 ≠ p2 := ne_of_new hp3
    have n31 : p3 ≠ p := ne_of_new (of_new hp3)
    refine ⟨[.int 0], aup_same, by decide, by decide, by decide, fun p4 hp4 => ?_⟩
    have n43 : p4 ≠ p3 := ne_of_new hp4
    have n42 : p4 ≠ p2 := ne_of_new (of_new hp4)
    have n41 : p4 ≠ p := ne_of_new (of_new (of_new hp4))
    have e0 : (List.replicate ((6 : Int)).toNat [D.int 0]).flatten = ([0, 0, 0, 0, 0, 0] : List Int).map D.int := rfl
    rw [e0]
    refine ⟨w.anys.map D.int, _, by rw [aup_ne n42.symm, aup_ne n32.symm, aup_same], aup_same, ?_, ?_⟩
    · have := k.al
      have : (1000 : Nat) ≤ sizeLine := by decide
      simp; omega
    rw [← List.map_append]
    intro p5 hp5
    have n54 : p5 ≠ p4 := ne_of_new hp5
    have n53 : p5 ≠ p3 := ne_of_new (of_new hp5)
    have n52 : p5 ≠ p2 := ne_of_new (of_new (of_new hp5))
    have n51 : p5 ≠ p := ne_of_new (of_new (of_new (of_new hp5)))
    unfold rSl
    simp only [aup_same]
    rw [show (some (6 : Int)) = some (((6 : Nat) : Int)) from rfl, cut_len, ← List.map_take]
    intro p6 hp6
    have n61 : p6 ≠ p := ne_of_new (of_new (of_new (of_new (of_new hp6))))
    refine rEqR (by rw [aup_ne n61.symm, aup_ne n51.symm, aup_ne n41.symm, aup_ne n31.symm, aup_ne n21.symm, aup_same]) aup_same ?_
    rw [decide_eq_true (six w.anys)]
    simp only [Bool.not_true]
    refine ⟨h, ?_, by simpa using q⟩
    exact (((((Sub.new hp).trans (.new hp2)).trans (.new hp3)).trans (.new hp4)).trans (.new hp5)).trans (.new hp6)
/-! ### called otherwise -/
structure Ord (m : Int) (o : List Int) : Prop where
  len : (o.length : Int) = m
  perm : o.Perm ((List.range o.length).map fun i => ((i : Nat) : Int))
def l11 : AS := aSet 17 (aFg (aCB cTuple (aCons (aFg (aCall sp__law_mixed AX0 (aCons (aVar 1) (aCons (aListRg (aVar 4)) aNil)))) aNil)))
theorem l11_ok (I : LI b T P m w σ h) (m0 : 0 < m) (m6 : m ≤ 6) (q : ∀ o h', Ord m o → LI b T P m w (σ.set 17 (some (eI o))) h' → E.nx (σ.set 17 (some (eI o))) h') : l11 E σ h := by
  unfold l11 aFg aListRg
  simp only [aSet_def, aCB_def, aCons_def, aCall_def, aVar_def, I.e1, I.e4, aNil_def]
  refine ⟨by omega, by omega, fun p hp => ?_⟩
  have pb := I.bag.not hp
  have f0 : Fr1 b h (aup h p (.lst (rgD 0 m.toNat))) := Fr1.refl.new hp pb
  refine ⟨b, p, rgD 0 m.toNat, rfl, pb, f0.bag I.bag, aup_same, by rw [rgD_length]; omega, fun ys p2 h1 py bg1 f1 hp2 ep2 => ⟨h1, .refl _, ?_⟩⟩
  rw [rgD_eq] at py
  obtain ⟨ms, rfl, pm⟩ := perm_map_int py
  have hm : ms.length = m.toNat := by rw [pm.length_eq]; simp [rgI]
  refine ⟨ms.map D.int, seqOf_ref ep2, h1, .refl _, ?_⟩
  refine q ms h1 ⟨by omega, ?_⟩ ((I.fr bg1 (f0.trans f1)).set (by decide))
  rw [hm]; exact pm
theorem Ord.win (r : Ord m o) (k : WOk P m w) (p : POk P) : WIn o.length w := by
  have w1 : ∀ {x : Int}, 0 ≤ x ∧ x < m → Within o.length x := fun h => ⟨h.1, by rw [r.len]; exact h.2⟩
  exact ⟨fun x hx => w1 (k.lb x hx), fun x hx => w1 (k.ib x hx), fun x hx => w1 (k.ab x hx), fun t ht => by
    obtain ⟨f, _, tk⟩ := k.tab p ht
    exact ⟨fun r hr => ⟨fun x hx => w1 ((tk.keys r hr).1.2.1 x hx), w1 (tk.keys r hr).2⟩, w1 tk.rest⟩⟩
theorem WOk.wsz (p : POk P) (k : WOk P m w) : WSz w := ⟨by rw [k.ll]; have := p.ll; omega, by rw [k.il]; have := p.il; omega, by have := k.al; omega, by rw [k.tl]; have := p.fl; omega⟩
def l12 (CN : Addr) : AS := aPar 18 19 (aCons (aCall (sp_put_otherwise CN) AX0 (aCons (aVar 3) (aCons (aVar 5) (aCons (aVar 17) aNil)))) (aCons (aCall sp_least_world AX0 (aCons (aVar 3) (aCons (aVar 5) aNil))) aNil))
theorem l12_ok (I : LI b T P m w σ h) (e17 : σ[17]? = some (some (eI o))) (r : Ord m o) (pk : POk P) (k : WOk P m w) (m0 : 0 < m) (m6 : m ≤ 6) (q : E.nx ((σ.set 18 (some (otherW P w o))).set 19 (some (eW (leastW w)))) h) : l12 CN E σ h := by
  unfold l12
  simp only [aPar_def, aCons_def, aCall_def, aVar_def, I.e3, I.e5, e17, aNil_def]
  refine ⟨P, w, o, rfl, fs_ok pk.fs, by rw [k.many, r.len], by have := r.len; omega, r.perm, r.win k pk, k.wsz pk, P, w, rfl, k.wsz pk, q⟩
def l13 : AS := aIfS (aNot (aTest (aCall sp__law_alike AX0 (aCons (aVar 18) (aCons (aCall sp__law_called AX0 (aCons (aVar 3) (aCons (aVar 5) (aCons (aVar 17) aNil)))) aNil))))) (aRet (aC (.bl false))) aNext
theorem l13_ok (I : LI b T P m w σ h) (e17 : σ[17]? = some (some (eI o))) (e18 : σ[18]? = some (some (otherW P w o))) (r : Ord m o) (pk : POk P) (k : WOk P m w) (m0 : 0 < m) (m6 : m ≤ 6) (q : E.nx σ h) : l13 E σ h := by
  unfold l13
  simp only [aIfS_def, aNot_def, aTest_def, aCall_def, aCons_def, aVar_def, I.e3, I.e5, e17, e18, aNil_def]
  exact ⟨P, w, o, rfl, fs_ok pk.fs, r.win k pk, k.wsz pk, _, rfl, otherW_sm pk k r.len m6 r.perm, by simpa using q⟩
/-! ### the least world -/
def l14 : AS := aSet 12 (aFg (aCB cTuple (aCons (aLc (iSeq (aOp rIx (aVar 5) (aC (.int 4)))) (aGTup 2 (aGCons (aName 21) (aGCons (aName 22) aGNil))) aYes (aTup (aCons (aFg (aCB cTuple (aCons (aLc (iSeq (aVar 21)) (aName 20) (aTest (aOp rNe (aOp rIx (aVar 20) (aC (.int 1))) (aVar 22))) (aVar 20) [20]) aNil))) (aCons (aVar 22) aNil))) [21, 22]) aNil)))
theorem filter_rows (rs : List Row) (z : Int) : (rs.map eRow).filter (fun d => decide ((dRow d).2 ≠ z)) = (rs.filter fun r => decide (r.2 ≠ z)).map eRow := by
  rw [List.filter_map]
  simp [Function.comp_def]
theorem l14_ok (I : LI b T P m w σ h) (q : E.nx (σ.set 12 (some (.tup ((leastW w).tabs.map eTab)))) h) : l14 E σ h := by
  unfold l14
  simp only [aSet_def]
  have em : (w.tabs.map eTab).filterMap (fun d => some (eTab (leastT (dTab d)))) = (leastW w).tabs.map eTab := by
    unfold leastW
    simp [List.filterMap_map, Function.comp_def]
  refine lcTup (s := fun h => seqOf h (.tup (w.tabs.map eTab))) (xs := w.tabs.map eTab) (h1 := h) (fun d => some (eTab (leastT (dTab d)))) (fun R' hr => ?_) (fun h' s => rfl) (fun d hd h' s K hK => ?_) (by rw [em]; exact q)
  · unfold iSeq
    simp only [aOp_def, aVar_def, I.e5, aC_def]
    simp only [eW, rIxT_def, atI_lit4]
    exact ⟨_, rfl, fun hz => hr (by simpa using hz)⟩
  · obtain ⟨t, ht, rfl⟩ := List.mem_map.mp hd
    have e21 : (((awipe σ [21, 22]).set 21 (some (D.tup (t.1.map eRow)))).set 22 (some (.int t.2)))[21]? = some (some (D.tup (t.1.map eRow))) := by
      rw [List.getElem?_set_ne (by decide)]; exact List.getElem?_set_self (by rw [awipe_length, I.len]; decide)
    have e22 : (((awipe σ [21, 22]).set 21 (some (D.tup (t.1.map eRow)))).set 22 (some (.int t.2)))[22]? = some (some (.int t.2)) := List.getElem?_set_self (by rw [List.length_set, awipe_length, I.len]; decide)
    have l22 : (((awipe σ [21, 22]).set 21 (some (D.tup (t.1.map eRow)))).set 22 (some (.int t.2))).length = 29 := by rw [List.length_set, List.length_set, awipe_length, I.len]
    unfold lcBody
    simp only [eTab, aGTup_def, aGCons_def, aName_def, aGNil_def, aYes_def, if_true]
    refine ⟨rfl, ?_⟩
    generalize ((awipe σ [21, 22]).set 21 (some (D.tup (t.1.map eRow)))).set 22 (some (.int t.2)) = τ at *
    simp only [aTup_def, aCons_def]
    refine tupFilter (x := .tup (t.1.map eRow)) (xs := t.1.map eRow) (fun d => decide ((dRow d).2 ≠ t.2)) (fun R z => by simp [e21]; exact z) rfl (fun d hd h' s K hK => ?_) (fun d hd h' K hK => ?_) fun hz => ?_
    · obtain ⟨r, hr, rfl⟩ := List.mem_map.mp hd
      have e20 : ((awipe τ [20]).set 20 (some (eRow r)))[20]? = some (some (eRow r)) := List.getElem?_set_self (by rw [awipe_length, l22]; decide)
      have e22' : ((awipe τ [20]).set 20 (some (eRow r)))[22]? = some (some (.int t.2)) := by rw [List.getElem?_set_ne (by decide)]; simp [awipe, e22]
      simp only [aTest_def, aOp_def, aVar_def, e20, e22', aC_def]
      simp only [eRow, rIxT_def, atI_lit1]
      show rEqB not _ _ _ _
      rw [rEqB_int]
      simp only [dRow_eRow] at hK
      simpa using hK
    · have e20 : ((awipe τ [20]).set 20 (some d))[20]? = some (some d) := List.getElem?_set_self (by rw [awipe_length, l22]; decide)
      simp only [aVar_def, e20]
      exact hK
    · simp only [aVar_def, e22, aNil_def]
      rw [filter_rows]
      refine ⟨len2, ?_⟩
      have := hK h' (.refl _)
      simp only [dTab_eTab] at this
      exact this
def l15 : AS := aIfS (aNot (aTest (aFg (aCall sp__law_alike AX0 (aCons (aVar 19) (aCons (aOp rAdd (aSl (aVar 5) aNoPart (aPart (aC (.int 4)))) (aTup (aCons (aVar 12) aNil))) aNil)))))) (aRet (aC (.bl false))) aNext
theorem l15_ok (I : LI b T P m w σ h) (e12 : σ[12]? = some (some (.tup ((leastW w).tabs.map eTab)))) (e19 : σ[19]? = some (some (eW (leastW w)))) (pk : POk P) (k : WOk P m w) (m0 : 0 < m) (m6 : m ≤ 6) (q : E.nx σ h) : l15 E σ h := by
  unfold l15 aFg
  simp only [aIfS_def, aNot_def, aTest_def, aCall_def, aCons_def, aVar_def, I.e5, e12, e19, aNil_def, aOp_def, aSl_def, aNoPart_def, aPart_def, aC_def, aTup_def]
  refine ⟨len1, (show 4 + 1 ≤ sizeLine by decide), eW (leastW w), rfl, leastW_sm (k.sml pk (by omega) m6), h, .refl _, by simpa using q⟩
end
end AX

set_option Elab.async false
set_option linter.all false
set_option maxRecDepth 100000
set_option maxHeartbeats 4000000
namespace AX
open PySem PySem.Spec PyProof.Rows L2
section
variable {b T : Addr} {P : Prg} {m : Int} {w : Wld} {σ : ASt} {h : AH} {E : AEnds} {CB CT CN : Addr} {o : List Int}
theorem ok_many : PyData.strOk (Str.ofString "many") = true := by decide +kernel
theorem ok_letters : PyData.strOk (Str.ofString "letters") = true := by decide +kernel
theorem ok_functions : PyData.strOk (Str.ofString "functions") = true := by decide +kernel
theorem ok_form : PyData.strOk (Str.ofString "form") = true := by decide +kernel
theorem len0 : ([] : List D).length ≤ sizeLine := (show 0 ≤ sizeLine by decide)
theorem len3 {x y z : D} : [x, y, z].length ≤ sizeLine := (show 3 ≤ sizeLine by decide)
theorem len6 {x y z a b c : D} : [x, y, z, a, b, c].length ≤ sizeLine := (show 6 ≤ sizeLine by decide)
def l16 : AS := aSet 13 (aOp (rI2 (fun _ _ => True) fun i j => .int (i - j)) (aCB cLen (aCons (aOp rIx (aVar 3) (aC (.int 0))) aNil)) (aC (.int 1)))
theorem l16_ok (e3 : σ[3]? = some (some (eP P))) (pk : POk P) (q : E.nx (σ.set 13 (some (.int ((P.fs.length - 1 : Nat) : Int)))) h) : l16 E σ h := by
  unfold l16
  simp only [aSet_def, aOp_def, aCB_def, aCons_def, aVar_def, e3, aC_def, aNil_def]
  simp only [eP, rIxT_def, atI_lit0, cLenT_def, rI2_def, List.length_map]
  refine ⟨trivial, ?_⟩
  have : (P.fs.length : Int) - 1 = ((P.fs.length - 1 : Nat) : Int) := by have := pk.fl; omega
  rw [this]; exact q
def l17 : AS := aSet 23 (aOp rMul (aTup (aCons (aOp (rI2 (fun _ _ => True) fun i j => .int (i - j)) (aVar 4) (aC (.int 1))) aNil)) (aC (.int 3)))
theorem l17_ok (e4 : σ[4]? = some (some (.int m))) (q : E.nx (σ.set 23 (some (eI [m - 1, m - 1, m - 1]))) h) : l17 E σ h := by
  unfold l17
  simp only [aSet_def, aOp_def, aTup_def, aCons_def, aVar_def, e4, aC_def, aNil_def, rI2_def]
  exact ⟨trivial, len1, by simp, by decide, by decide, by simp, q⟩
def l18 : AS := aSet 24 (aLst (aCons (aTup (aCons (aTup (aCons (aTup (aCons (aTup (aCons (aC (.int 0)) (aCons (aC (.int 0)) aNil))) (aCons (aC (.int 0)) aNil))) aNil)) (aCons (aC (.int 0)) aNil))) (aCons (aTup (aCons (aTup (aCons (aTup (aCons (aTup (aCons (aC (.int 0)) (aCons (aC (.int 0)) (aCons (aVar 4) aNil)))) (aCons (aC (.int 0)) aNil))) aNil)) (aCons (aC (.int 0)) aNil))) (aCons (aTup (aCons (aTup (aCons (aTup (aCons (aTup (aCons (aC (.int 0)) (aCons (aC (.int 0)) (aCons (aC (.int 1)) aNil)))) (aCons (aC (.int 0)) aNil))) (aCons (aTup (aCons (aTup (aCons (aC (.int 0)) (aCons (aC (.int 0)) (aCons (aC (.int 0)) aNil)))) (aCons (aC (.int 0)) aNil))) aNil))) (aCons (aC (.int 0)) aNil))) (aCons (aTup (aCons (aTup (aCons (aTup (aCons (aVar 23) (aCons (aC (.int 0)) aNil))) (aCons (aTup (aCons (aVar 23) (aCons (aC (.int 0)) aNil))) aNil))) (aCons (aC (.int 0)) aNil))) (aCons (aTup (aCons (aTup (aCons (aTup (aCons (aVar 23) (aCons (aVar 4) aNil))) aNil)) (aCons (aC (.int 0)) aNil))) (aCons (aTup (aCons (aTup aNil) (aCons (aVar 4) aNil))) aNil)))))))
theorem l18_ok (e4 : σ[4]? = some (some (.int m))) (e23 : σ[23]? = some (some (eI [m - 1, m - 1, m - 1]))) (q : ∀ p, h p = none → E.nx (σ.set 24 (some (.ref p))) (aup h p (.lst ((bentTabs m).map eTab)))) : l18 E σ h := by
  unfold l18
  simp only [aSet_def, aLst_def, aTup_def, aCons_def, aVar_def, e4, e23, aC_def, aNil_def]
  repeat' (first | exact len0 | exact len1 | exact len2 | exact len3 | exact len6 | refine And.intro ?_ ?_)
  exact q
/-! ### what is wrong with a thing -/
def BadAt (P : Prg) (h : AH) (d : D) (x : Str) : Prop := ∀ h' R E, Sub h h' → R (.str x) h' → sp__law_fault [eP P, d] h' R E
theorem badW {w' : Wld} {x : Str} (pk : POk P) (nn : Nn w') (nd : w'.letters.length = P.letters.length → w'.letters.Nodup) (mm : w'.many ≤ 2100) (wf : worldFault P w' = some x) : BadAt P h (eW w') x := fun h' R E _ r =>
  ⟨P, _, rfl, fs_ok pk.fs, .inl (noRef_eW w'), fun z => (by rw [form_of nn] at z; cases z), fun w2 hw _ => by
    obtain rfl := eW_inj hw
    exact ⟨nd, fun z => by omega, fun _ => by rw [wf]; exact r⟩⟩
theorem bad_tabs {ts : List Tab} (pk : POk P) (k : WOk P m w) (m0 : 0 < m) (m6 : m ≤ 6) (nt : ∀ t ∈ ts, NnT t) (hr : rightFns P.fs m ts = false) : BadAt P h (eW { w with tabs := ts }) "functions" := by
  have nn := k.nn pk
  refine badW pk ⟨nn.l, nn.i, nn.a, nt⟩ (fun _ => k.ln) (by show w.many ≤ 2100; rw [k.many]; omega) ?_
  rw [fault_tabs k m0, hr]; rfl
def pr (p : D × Str) : D := .tup [p.1, .str p.2]
/-- the row of bent things -/
structure BL (P : Prg) (σ : ASt) (h : AH) (l : List (D × Str)) : Prop where
  at_ : ∃ p, σ[25]? = some (some (.ref p)) ∧ h p = some (.lst (l.map pr))
  bad : ∀ z ∈ l, BadAt P h z.1 z.2 ∧ PyData.strOk z.2 = true
  len : l.length ≤ 100
def l19 : AS := aSet 25 (aLc (iSeq (aVar 24)) (aName 26) aYes (aTup (aCons (aOp rAdd (aSl (aVar 5) aNoPart (aPart (aC (.int 4)))) (aTup (aCons (aOp rAdd (aSl (aOp rIx (aVar 5) (aC (.int 4))) aNoPart (aPart (aVar 13))) (aTup (aCons (aVar 26) aNil))) aNil))) (aCons (aC (.str "functions")) aNil))) [26])
theorem cutW4 : cutD [D.int w.many, eI w.letters, eI w.inputs, eI w.anys, D.tup (w.tabs.map eTab)] none (some 4) = [D.int w.many, eI w.letters, eI w.inputs, eI w.anys] := rfl
theorem BadAt.sub {h h' : AH} {d : D} {x : Str} (B : BadAt P h d x) (s : Sub h h') : BadAt P h' d x := fun h2 R E s2 r => B h2 R E (s.trans s2) r
theorem l19_ok {n : Nat} {p24 : Addr} (tl : w.tabs.length ≤ 4) (I : LI b T P m w σ h) (e13 : σ[13]? = some (some (.int (n : Int)))) (e24 : σ[24]? = some (some (.ref p24))) (h24 : h p24 = some (.lst ((bentTabs m).map eTab)))
    (q : ∀ p, h p = none → E.nx (σ.set 25 (some (.ref p))) (aup h p (.lst ((bentTabs m).map fun t => pr (eW { w with tabs := w.tabs.take n ++ [t] }, "functions"))))) : l19 E σ h := by
  unfold l19
  simp only [aSet_def]
  refine lcMap (x := .ref p24) (xs := (bentTabs m).map eTab) (fun d => pr (eW { w with tabs := w.tabs.take n ++ [dTab d] }, "functions")) (fun R r => by simp [e24]; exact r) (seqOf_ref h24) (fun d hd h' s K hK => ?_) fun hz p hp => ?_
  · obtain ⟨t, ht, rfl⟩ := List.mem_map.mp hd
    have e26 : ((awipe σ [26]).set 26 (some (eTab t)))[26]? = some (some (eTab t)) := List.getElem?_set_self (by rw [awipe_length, I.len]; decide)
    have e5 : ((awipe σ [26]).set 26 (some (eTab t)))[5]? = some (some (eW w)) := by rw [List.getElem?_set_ne (by decide)]; simp [awipe, I.e5]
    have e13' : ((awipe σ [26]).set 26 (some (eTab t)))[13]? = some (some (.int (n : Int))) := by rw [List.getElem?_set_ne (by decide)]; simp [awipe, e13]
    simp only [aTup_def, aCons_def, aOp_def, aSl_def, aVar_def, e26, e5, e13', aNoPart_def, aPart_def, aC_def, aNil_def]
    simp only [eW, rIxT_def, atI_lit4, rSl, cutW4, cut_len]
    have := hK h' (.refl _)
    simp only [dTab_eTab, pr, eW, List.map_append, List.map_cons, List.map_nil, List.map_take] at this
    refine ⟨len1, ?_, len1, (show 4 + 1 ≤ sizeLine by decide), len2, this⟩
    have : (1000 : Nat) ≤ sizeLine := by decide
    simp only [List.length_take, List.length_map, List.length_cons, List.length_nil]
    omega
  · have := q p hp
    rw [List.map_map]
    simpa [Function.comp_def] using this
def l20 : AS := aSet 25 (aOp rAdd (aVar 25) (aLst (aCons (aTup (aCons (aOp rAdd (aTup (aCons (aC (.int 0)) aNil)) (aSl (aVar 5) (aPart (aC (.int 1))) aNoPart)) (aCons (aC (.str "many")) aNil))) (aCons (aTup (aCons (aOp rAdd (aOp rAdd (aSl (aVar 5) aNoPart (aPart (aC (.int 1)))) (aTup (aCons (aOp rMul (aTup (aCons (aC (.int 0)) aNil)) (aOp rAdd (aCB cLen (aCons (aOp rIx (aVar 3) (aC (.int 1))) aNil)) (aC (.int 1)))) aNil))) (aSl (aVar 5) (aPart (aC (.int 2))) aNoPart)) (aCons (aC (.str "letters")) aNil))) (aCons (aTup (aCons (aOp rAdd (aSl (aVar 5) aNoPart (aPart (aC (.int 4)))) (aTup (aCons (aSl (aOp rIx (aVar 5) (aC (.int 4))) aNoPart (aPart (aVar 13))) aNil))) (aCons (aC (.str "functions")) aNil))) aNil)))))
theorem cutW1 {a b c d e : D} : cutD [a, b, c, d, e] (some 1) none = [b, c, d, e] := rfl
theorem cutW2 {a b c d e : D} : cutD [a, b, c, d, e] (some 2) none = [c, d, e] := rfl
theorem cutW01 {a b c d e : D} : cutD [a, b, c, d, e] none (some 1) = [a] := rfl
theorem repl_flat (n : Nat) : (List.replicate n [D.int 0]).flatten = (List.replicate n (0 : Int)).map D.int := by
  induction n with
  | zero => rfl
  | succ n ih => rw [List.replicate_succ, List.flatten_cons, ih, List.replicate_succ]; rfl
theorem BL.app {l l2 : List (D × Str)} {p p2 p3 : Addr} (B : BL P σ h l) (e25 : σ[25]? = some (some (.ref p))) (s : Sub h (aup (aup h p2 (.lst (l2.map pr))) p3 (.lst ((l ++ l2).map pr)))) (hb : ∀ z ∈ l2, BadAt P h z.1 z.2 ∧ PyData.strOk z.2 = true) (hl : σ.length = 29) (l100 : l.length + l2.length ≤ 100) :
    BL P (σ.set 25 (some (.ref p3))) (aup (aup h p2 (.lst (l2.map pr))) p3 (.lst ((l ++ l2).map pr))) (l ++ l2) :=
  ⟨⟨p3, List.getElem?_set_self (by rw [hl]; decide), aup_same⟩, fun z hz => by
    rcases List.mem_append.mp hz with hz | hz
    · exact ⟨(B.bad z hz).1.sub s, (B.bad z hz).2⟩
    · exact ⟨(hb z hz).1.sub s, (hb z hz).2⟩, by rw [List.length_append]; exact l100⟩
theorem l20_ok {l : List (D × Str)} {n : Nat} (pk : POk P) (k : WOk P m w) (m0 : 0 < m) (m6 : m ≤ 6) (hn : n < P.fs.length) (I : LI b T P m w σ h) (e13 : σ[13]? = some (some (.int (n : Int)))) (B : BL P σ h l) (l50 : l.length ≤ 50)
    (q : ∀ p h', Sub h h' → BL P (σ.set 25 (some (.ref p))) h' (l ++ [(eW { w with many := 0 }, ("many" : Str)), (eW { w with letters := List.replicate (P.letters.length + 1) 0 }, ("letters" : Str)), (eW { w with tabs := w.tabs.take n }, ("functions" : Str))]) → E.nx (σ.set 25 (some (.ref p))) h') : l20 E σ h := by
  obtain ⟨p, e25, hp⟩ := B.at_
  have nn := k.nn pk
  have pl := pk.ll
  have tl : w.tabs.length ≤ 4 := by rw [k.tl]; exact pk.fl.2
  have sl : (1000 : Nat) ≤ sizeLine := by decide
  unfold l20
  simp only [aSet_def, aOp_def, aLst_def, aTup_def, aCons_def, aSl_def, aVar_def, e25, e13, I.e3, I.e5, aNoPart_def, aPart_def, aC_def, aNil_def, aCB_def]
  simp only [eP, eS, rIxT_def, atI_lit1, cLenT_def, List.length_map]
  simp only [eW, rSl, cutW4, cutW1, cutW2, cutW01, rIxT_def, atI_lit4, cut_len]
  have c1 : ((P.letters.length : Int) + 1).toNat = P.letters.length + 1 := by omega
  refine ⟨len1, (show 1 + 4 ≤ sizeLine by decide), len2, len1, by simp, by omega, by omega, by simp, len1, (show 1 + 1 ≤ sizeLine by decide), (show 2 + 3 ≤ sizeLine by decide), len2, len1, (show 4 + 1 ≤ sizeLine by decide), len2, len3, fun p2 hp2 => ?_⟩
  rw [c1, repl_flat]
  have n2 : p2 ≠ p := fun z => by rw [z, hp] at hp2; cases hp2
  refine ⟨l.map pr, _, by rw [aup_ne n2.symm]; exact hp, aup_same, by simp; omega, fun p3 hp3 => ?_⟩
  have el : l.map pr ++ [D.tup [D.tup ([D.int 0] ++ [eI w.letters, eI w.inputs, eI w.anys, D.tup (w.tabs.map eTab)]), D.str "many"],
      D.tup [D.tup ([D.int w.many] ++ [D.tup ((List.replicate (P.letters.length + 1) (0 : Int)).map D.int)] ++ [eI w.inputs, eI w.anys, D.tup (w.tabs.map eTab)]), D.str "letters"],
      D.tup [D.tup ([D.int w.many, eI w.letters, eI w.inputs, eI w.anys] ++ [D.tup ((w.tabs.map eTab).take n)]), D.str "functions"]] = (l ++ [(eW { w with many := 0 }, ("many" : Str)), (eW { w with letters := List.replicate (P.letters.length + 1) 0 }, ("letters" : Str)), (eW { w with tabs := w.tabs.take n }, ("functions" : Str))]).map pr := by
    rw [List.map_append]
    simp [pr, eW, eI, List.map_take]
  have el2 : [D.tup [D.tup ([D.int 0] ++ [eI w.letters, eI w.inputs, eI w.anys, D.tup (w.tabs.map eTab)]), D.str "many"],
      D.tup [D.tup ([D.int w.many] ++ [D.tup ((List.replicate (P.letters.length + 1) (0 : Int)).map D.int)] ++ [eI w.inputs, eI w.anys, D.tup (w.tabs.map eTab)]), D.str "letters"],
      D.tup [D.tup ([D.int w.many, eI w.letters, eI w.inputs, eI w.anys] ++ [D.tup ((w.tabs.map eTab).take n)]), D.str "functions"]] = ([(eW { w with many := 0 }, ("many" : Str)), (eW { w with letters := List.replicate (P.letters.length + 1) 0 }, ("letters" : Str)), (eW { w with tabs := w.tabs.take n }, ("functions" : Str))]).map pr := by
    simp [pr, eW, eI, List.map_take]
  rw [el, el2]
  rw [el2] at hp3
  have s2 : Sub h (aup (aup h p2 (.lst (([(eW { w with many := 0 }, ("many" : Str)), (eW { w with letters := List.replicate (P.letters.length + 1) 0 }, ("letters" : Str)), (eW { w with tabs := w.tabs.take n }, ("functions" : Str))]).map pr))) p3 (.lst ((l ++ [(eW { w with many := 0 }, ("many" : Str)), (eW { w with letters := List.replicate (P.letters.length + 1) 0 }, ("letters" : Str)), (eW { w with tabs := w.tabs.take n }, ("functions" : Str))]).map pr))) := (Sub.new hp2).trans (Sub.new hp3)
  refine q p3 _ s2 (BL.app B e25 s2 (fun z hz => ?_) I.len (by simp; omega))
  simp only [List.mem_cons, List.not_mem_nil, or_false] at hz
  rcases hz with rfl | rfl | rfl
  · refine ⟨badW pk ⟨nn.l, nn.i, nn.a, nn.t⟩ (fun _ => k.ln) (by show (0 : Int) ≤ 2100; decide) ?_, ok_many⟩
    unfold worldFault
    rw [if_pos (show (0 : Int) < 1 by decide)]
  · refine ⟨badW pk ⟨fun x hx => ?_, nn.i, nn.a, nn.t⟩ (fun z => ?_) (by show w.many ≤ 2100; rw [k.many]; omega) ?_, ok_letters⟩
    · rw [(List.mem_replicate.mp hx).2]; decide
    · simp at z
    · unfold worldFault
      simp only
      rw [if_neg (by rw [k.many]; omega), if_pos (by simp)]
  · refine ⟨bad_tabs pk k m0 m6 (fun t ht => nn.t t (List.mem_of_mem_take ht)) (bent_len ?_), ok_functions⟩
    rw [List.length_take]; omega
def l21 : AS := aSet 25 (aOp rAdd (aVar 25) (aLst (aCons (aTup (aCons (aCB cList (aCons (aVar 5) aNil)) (aCons (aC (.str "form")) aNil))) (aCons (aTup (aCons (aSl (aVar 5) aNoPart (aPart (aC (.int 4)))) (aCons (aC (.str "form")) aNil))) aNil))))
theorem l21_ok {l : List (D × Str)} (pk : POk P) (I : LI b T P m w σ h) (B : BL P σ h l) (l60 : l.length ≤ 60)
    (q : ∀ p l' h', Sub h h' → BL P (σ.set 25 (some (.ref p))) h' l' → E.nx (σ.set 25 (some (.ref p))) h') : l21 E σ h := by
  obtain ⟨p, e25, hp⟩ := B.at_
  have sl : (1000 : Nat) ≤ sizeLine := by decide
  unfold l21
  simp only [aSet_def, aOp_def, aLst_def, aTup_def, aCons_def, aSl_def, aVar_def, e25, I.e5, aNoPart_def, aPart_def, aC_def, aNil_def, aCB_def]
  simp only [eW, rSl, cutW4]
  refine ⟨_, rfl, fun p1 hp1 => ⟨len2, len2, len2, fun p2 hp2 => ?_⟩⟩
  have n1 : p1 ≠ p := fun z => by rw [z, hp] at hp1; cases hp1
  have n2 : p2 ≠ p := fun z => by rw [z, aup_ne n1.symm, hp] at hp2; cases hp2
  refine ⟨l.map pr, _, by rw [aup_ne n2.symm, aup_ne n1.symm]; exact hp, aup_same, by simp; have := B.len; omega, fun p3 hp3 => ?_⟩
  have s1 := Sub.new (o := .lst [D.int w.many, eI w.letters, eI w.inputs, eI w.anys, D.tup (w.tabs.map eTab)]) hp1
  have B1 : BL P σ (aup h p1 (.lst [D.int w.many, eI w.letters, eI w.inputs, eI w.anys, D.tup (w.tabs.map eTab)])) l := ⟨⟨p, e25, s1 _ _ hp⟩, fun z hz => ⟨(B.bad z hz).1.sub s1, (B.bad z hz).2⟩, B.len⟩
  have el2 : [D.tup [D.ref p1, D.str "form"], D.tup [D.tup [D.int w.many, eI w.letters, eI w.inputs, eI w.anys], D.str "form"]] = [(D.ref p1, ("form" : Str)), (D.tup [D.int w.many, eI w.letters, eI w.inputs, eI w.anys], ("form" : Str))].map pr := rfl
  have e0 : l.map pr ++ [D.tup [D.ref p1, D.str "form"], D.tup [D.tup [D.int w.many, eI w.letters, eI w.inputs, eI w.anys], D.str "form"]] = (l ++ [(D.ref p1, ("form" : Str)), (D.tup [D.int w.many, eI w.letters, eI w.inputs, eI w.anys], ("form" : Str))]).map pr := by rw [el2, List.map_append]
  rw [e0, el2]
  rw [el2] at hp3
  have s2 := (Sub.new (o := .lst ([(D.ref p1, ("form" : Str)), (D.tup [D.int w.many, eI w.letters, eI w.inputs, eI w.anys], ("form" : Str))].map pr)) hp2).trans (Sub.new (o := .lst ((l ++ [(D.ref p1, ("form" : Str)), (D.tup [D.int w.many, eI w.letters, eI w.inputs, eI w.anys], ("form" : Str))]).map pr)) hp3)
  refine q p3 _ _ (s1.trans s2) (BL.app B1 e25 s2 (fun z hz => ?_) I.len (by simp; omega))
  simp only [List.mem_cons, List.not_mem_nil, or_false] at hz
  rcases hz with rfl | rfl
  · refine ⟨fun h' R E s r => ⟨P, _, rfl, fs_ok pk.fs, .inr ⟨⟨"list", ?_⟩, p1, rfl⟩, fun _ => r, fun w' hw => ?_⟩, ok_form⟩
    · have := s _ _ (aup_same (h := h) (a := p1) (o := .lst [D.int w.many, eI w.letters, eI w.inputs, eI w.anys, D.tup (w.tabs.map eTab)]))
      simp [tyD, this]
    · unfold eW at hw; cases hw
  · refine ⟨fun h' R E s r => ⟨P, _, rfl, fs_ok pk.fs, .inl ?_, fun _ => r, fun w' hw => ?_⟩, ok_form⟩
    · simp only [noRef, noRefs_all, List.all_cons, List.all_nil, Bool.and_true, noRef_eI, Bool.true_and]
    · have := congrArg (fun d => match d with | D.tup xs => xs.length | _ => 0) hw
      simp [eW] at this
end
end AX

set_option Elab.async false
set_option linter.all false
set_option maxRecDepth 100000
set_option maxHeartbeats 4000000
namespace AX
open PySem PySem.Spec PyProof.Rows L2
section
variable {b T : Addr} {P : Prg} {m : Int} {w : Wld} {σ : ASt} {h : AH} {E : AEnds} {CB CT CN : Addr} {o : List Int}
def l22 : AS := aIfS (aFgT (aTest (aOp rNe (aLc (iSeq (aVar 25)) (aGTup 2 (aGCons (aName 27) (aGCons (aName 28) aGNil))) (aTest (aOp rNe (aCall sp__law_fault AX0 (aCons (aVar 3) (aCons (aVar 27) aNil))) (aVar 28))) (aVar 27) [27, 28]) (aLst aNil)))) (aRet (aC (.bl false))) aNext
theorem l22_ok {l : List (D × Str)} (I : LI b T P m w σ h) (B : BL P σ h l) (q : E.nx σ h) : l22 E σ h := by
  obtain ⟨p, e25, hp⟩ := B.at_
  unfold l22
  simp only [aIfS_def, aFgT, aTest_def, aOp_def]
  refine aLc_pure (s := fun h => seqOf h (.ref p)) (xs := l.map pr) (h1 := h) (fun _ => none) (fun R' hr => ?_) (fun h' s => seqOf_sub s (seqOf_ref hp)) (fun d hd h' s K hK => ?_) fun p1 hp1 => ?_
  · unfold iSeq
    simp only [aVar_def, e25]
    exact ⟨_, seqOf_ref hp, fun hz => hr hz⟩
  · obtain ⟨z, hz, rfl⟩ := List.mem_map.mp hd
    obtain ⟨bz, oz⟩ := B.bad z hz
    have e27 : (((awipe σ [27, 28]).set 27 (some z.1)).set 28 (some (.str z.2)))[27]? = some (some z.1) := by
      rw [List.getElem?_set_ne (by decide)]; exact List.getElem?_set_self (by rw [awipe_length, I.len]; decide)
    have e28 : (((awipe σ [27, 28]).set 27 (some z.1)).set 28 (some (.str z.2)))[28]? = some (some (.str z.2)) := List.getElem?_set_self (by rw [List.length_set, awipe_length, I.len]; decide)
    have e3 : (((awipe σ [27, 28]).set 27 (some z.1)).set 28 (some (.str z.2)))[3]? = some (some (eP P)) := by
      rw [List.getElem?_set_ne (by decide), List.getElem?_set_ne (by decide)]; simp [awipe, I.e3]
    unfold lcBody
    simp only [pr, aGTup_def, aGCons_def, aName_def, aGNil_def]
    refine ⟨rfl, ?_⟩
    simp only [aTest_def, aOp_def, aCall_def, aCons_def, aVar_def, e3, e27, e28, aNil_def]
    refine bz h' _ _ s ?_
    show rEqB not _ _ _ _
    rw [rEqB_str]
    refine ⟨oz, oz, ?_⟩
    simp only [decide_true, Bool.not_true, Bool.false_eq_true, if_false]
    exact hK h' (.refl _)
  · have e : (l.map pr).filterMap (fun _ => (none : Option D)) = [] := by simp
    rw [e]
    simp only [aLst_def, aNil_def]
    refine ⟨len0, fun p2 hp2 => ?_⟩
    have n2 : p2 ≠ p1 := ne_of_new hp2
    refine rEqR (xs := []) (ys := []) (by rw [aup_ne n2.symm, aup_same]; rfl) (by rw [aup_same]; rfl) ?_
    simp only [decide_true, Bool.not_true]
    exact ⟨h, (Sub.new hp1).trans (Sub.new hp2), by simpa using q⟩
/-! ### refused -/
def strip (h : AH) (T : Addr) : AH := fun a => match h a with
  | some (.tab q) => if a = T then some (.tab q) else none
  | x => x
theorem strip_sub : Sub (strip h T) h := fun a o e => by
  unfold strip at e
  split at e
  · rename_i q eq
    split at e
    · rw [eq]; exact e
    · cases e
  · exact e
theorem strip_of {a : Addr} {o : O} (e : h a = some o) (n : ∀ q, o ≠ .tab q) : strip h T a = some o := by
  unfold strip
  rw [e]
  cases o <;> first | rfl | exact absurd rfl (n _)
theorem strip_T {q : Str} (e : h T = some (.tab q)) : strip h T T = some (.tab q) := by
  unfold strip
  rw [e]; simp
theorem strip_only {a : Addr} {q : Str} (e : strip h T a = some (.tab q)) : a = T := by
  unfold strip at e
  split at e
  · split at e
    · assumption
    · cases e
  · rename_i x; exact absurd e (x q)
theorem strip_bag (bg : Bag h b) : Bag (strip h T) b := by
  obtain ⟨a, x, y, z, cs, e1, e2, e3, r⟩ := bg
  exact ⟨a, x, y, z, cs, strip_of e1 fun _ => nofun, e2, strip_of e3 fun _ => nofun, r⟩
theorem LI.strip (I : LI b T P m w σ h) : LI b T P m w σ (strip h T) := ⟨I.len, I.e1, I.e3, I.e4, I.e5, strip_bag I.bag, strip_T I.tab⟩
theorem refused_ok {te : AXK → AE} {R : DK} (I : LI b T P m w σ h) (ht : ∀ (EA : AXK) (h' : AH) (R' : DK), EA CN [] h' → te EA σ h' R') (q : R (.bl true) (strip h T)) : aRef CN T q_law te σ h R :=
  ⟨strip h T, strip_sub, strip_T I.tab, fun a q' e => strip_only e, fun EA hE => ht EA _ _ (hE [] _ q)⟩
theorem no_q {fs : List Fnc} (h : FsOk fs) : (fs.findIdx? fun f => f.f == ("q" : Str)) = none := by
  rw [List.findIdx?_eq_none_iff]
  intro f hf
  rcases fs_cases h hf with rfl | rfl | rfl | rfl <;> decide
theorem strOk_q : PyData.strOk (Str.ofString "q") = true := by decide +kernel
theorem strOk_k : PyData.strOk (Str.ofString "k") = true := by decide +kernel
theorem refuse_k {h : AH} {R : DK} {EA : AXK} (pk : POk P) (k : WOk P m w) (e : EA CN [] h) : sp_applied CN [eP P, eW w, .str "k", .tup [.int 0, .int 0]] h R EA := by
  refine ⟨P, w, "k", [0, 0], rfl, fs_ok pk.fs, strOk_k, k.tl, fun _ => e, fun i f t ei ef et => ⟨fun _ => e, fun z => ?_⟩⟩
  have e2 := fs_find pk.fs pk.last
  have e3 : (Str.ofString "k") = kF.f := rfl
  rw [e3, e2] at ei
  cases ei
  rw [pk.last] at ef; cases ef
  have := z.2.1
  simp [kF] at this
theorem refuse_q {h : AH} {R : DK} {EA : AXK} (pk : POk P) (k : WOk P m w) (e : EA CN [] h) : sp_applied CN [eP P, eW w, .str "q", .tup [.int 0]] h R EA := by
  refine ⟨P, w, "q", [0], rfl, fs_ok pk.fs, strOk_q, k.tl, fun _ => e, fun i f t ei ef et => ?_⟩
  rw [no_q pk.fs] at ei; cases ei
theorem q_letters (pk : POk P) : ("q" : Str) ∉ P.letters := by
  obtain ⟨n, _, _, e⟩ := pk.letters
  rw [e]
  intro z
  have := List.mem_of_mem_take z
  revert this; decide
theorem refuse_l {h : AH} {R : DK} {EA : AXK} (pk : POk P) (k : WOk P m w) (e : EA CN [] h) : sp_letter_worth CN [eP P, eW w, .str "q"] h R EA :=
  ⟨P, w, "q", rfl, k.ll, pk.lok, strOk_q, fun _ => e, fun i n ei _ _ => absurd (List.mem_of_getElem? ei) (q_letters pk)⟩
def l23 (CN T : Addr) : AS := aIfS (aOr (aNot (aTest (aRef CN T q_law fun EA => (aCall (sp_applied CN) EA (aCons (aVar 3) (aCons (aVar 5) (aCons (aC (.str "k")) (aCons (aTup (aCons (aC (.int 0)) (aCons (aC (.int 0)) aNil))) aNil)))))))) (aFgT (aTest (aOp rNe (aFg (aCall sp__law_fault AX0 (aCons (aVar 3) (aCons (aOp rAdd (aTup (aCons (aC (.int 2101)) aNil)) (aSl (aVar 5) (aPart (aC (.int 1))) aNoPart)) aNil)))) (aTup (aCons (aC (.str "worths")) (aCons (aC (.int 2100)) aNil))))))) (aRet (aC (.bl false))) aNext
theorem l23_ok (I : LI b T P m w σ h) (pk : POk P) (k : WOk P m w) (q : ∀ h', LI b T P m w σ h' → E.nx σ h') : l23 CN T E σ h := by
  have nn := k.nn pk
  unfold l23
  simp only [aIfS_def, aOr_def, aNot_def, aTest_def]
  refine refused_ok I (fun EA h' R' e => ?_) ?_
  · simp only [aCall_def, aCons_def, aVar_def, I.e3, I.e5, aC_def, aTup_def, aNil_def]
    exact ⟨len2, refuse_k pk k e⟩
  · simp only [Bool.not_true, Bool.false_eq_true, if_false]
    unfold aFgT aFg
    simp only [aTest_def, aOp_def, aCall_def, aCons_def, aVar_def, I.e3, I.e5, aC_def, aTup_def, aNil_def, aSl_def, aPart_def, aNoPart_def]
    simp only [eW, rSl, cutW1]
    refine ⟨len1, (show 1 + 4 ≤ sizeLine by decide), P, eW { w with many := 2101 }, rfl, fs_ok pk.fs, .inl (noRef_eW _), fun z => ?_, fun w' hw hf => ?_⟩
    · rw [form_of (w := { w with many := 2101 }) ⟨nn.l, nn.i, nn.a, nn.t⟩] at z; cases z
    · obtain rfl := eW_inj hw
      refine ⟨fun _ => k.ln, fun _ => ⟨strip h T, .refl _, len2, ?_⟩, fun z => absurd z (by show ¬ (2101 : Int) ≤ 2100; decide)⟩
      refine rEqB_same (by decide +kernel) rfl (fun a z => by cases z) ⟨strip h T, .refl _, ?_⟩
      simpa using q _ I.strip
def l24 (CN T : Addr) : AS := aIfS (aNot (aTest (aRef CN T q_law fun EA => (aCall (sp_applied CN) EA (aCons (aVar 3) (aCons (aVar 5) (aCons (aC (.str "q")) (aCons (aTup (aCons (aC (.int 0)) aNil)) aNil)))))))) (aRet (aC (.bl false))) aNext
theorem l24_ok (I : LI b T P m w σ h) (pk : POk P) (k : WOk P m w) (q : ∀ h', LI b T P m w σ h' → E.nx σ h') : l24 CN T E σ h := by
  unfold l24
  simp only [aIfS_def, aNot_def, aTest_def]
  refine refused_ok I (fun EA h' R' e => ?_) (by simpa using q _ I.strip)
  simp only [aCall_def, aCons_def, aVar_def, I.e3, I.e5, aC_def, aTup_def, aNil_def]
  exact ⟨len1, refuse_q pk k e⟩
def l25 (CN T : Addr) : AS := aIfS (aNot (aTest (aRef CN T q_law fun EA => (aCall (sp_letter_worth CN) EA (aCons (aVar 3) (aCons (aVar 5) (aCons (aC (.str "q")) aNil))))))) (aRet (aC (.bl false))) aNext
theorem l25_ok (I : LI b T P m w σ h) (pk : POk P) (k : WOk P m w) (q : ∀ h', LI b T P m w σ h' → E.nx σ h') : l25 CN T E σ h := by
  unfold l25
  simp only [aIfS_def, aNot_def, aTest_def]
  refine refused_ok I (fun EA h' R' e => ?_) (by simpa using q _ I.strip)
  simp only [aCall_def, aCons_def, aVar_def, I.e3, I.e5, aC_def, aNil_def]
  exact refuse_l pk k e
/-! ### the law -/
theorem t_law_eq (CB CT CN l : Addr) (ns : List Int) (T : Addr) : t_law CB CT CN l ns T = aSeq (aSet 1 (aCallF sp__law_bag l ns (aCons (aVar 0) aNil))) (aSeq (aFor (iRg1 (aCons (aC (.int 4)) aNil)) (aName 2) (aSeq l3 (aSeq l4 (aSeq l5 (aSeq (l6 CB CT) (aSeq (l7 CN) (aSeq (l8 CN) (aSeq (l9 CN) (aSeq (l10 CN) (aSeq l11 (aSeq (l12 CN) (aSeq l13 (aSeq l14 (aSeq l15 (aSeq l16 (aSeq l17 (aSeq l18 (aSeq l19 (aSeq l20 (aSeq l21 (aSeq l22 (aSeq (l23 CN T) (aSeq (l24 CN T) (l25 CN T)))))))))))))))))))))))) (aRet (aC (.bl true)))) := rfl
structure LL (b T : Addr) (σ : ASt) (h : AH) : Prop where
  len : σ.length = 29
  e1 : σ[1]? = some (some (.ref b))
  bag : Bag h b
  tab : h T = some (.tab q_law)
theorem LI.ll (I : LI b T P m w σ h) : LL b T σ h := ⟨I.len, I.e1, I.bag, I.tab⟩
theorem LI.sub {h' : AH} (I : LI b T P m w σ h) (s : Sub h h') : LI b T P m w σ h' := I.fr ((Fr1.sub s).bag I.bag) (.sub s)
theorem lap_ok (L : LL b T σ h) (q : ∀ σ' h', LL b T σ' h' → E.nx σ' h') : (aSeq l3 (aSeq l4 (aSeq l5 (aSeq (l6 CB CT) (aSeq (l7 CN) (aSeq (l8 CN) (aSeq (l9 CN) (aSeq (l10 CN) (aSeq l11 (aSeq (l12 CN) (aSeq l13 (aSeq l14 (aSeq l15 (aSeq l16 (aSeq l17 (aSeq l18 (aSeq l19 (aSeq l20 (aSeq l21 (aSeq l22 (aSeq (l23 CN T) (aSeq (l24 CN T) (l25 CN T))))))))))))))))))))))) E σ h := by
  simp only [aSeq_def]
  refine l3_ok (b := b) L.e1 L.bag fun P h1 pk bg1 f1 => ?_
  have t1 := f1.1 T _ (bag_ne L.bag L.tab) L.tab
  have pl := pk.ll
  refine l4_ok (b := b) (P := P) (by simp [L.e1]) (by simp [L.len]) bg1 fun v h2 v0 v1 bg2 f2 => ?_
  have t2 := f2.1 T _ (bag_ne bg1 t1) t1
  have m0 : 0 < (P.letters.length : Int) + 1 + v := by omega
  have m6 : (P.letters.length : Int) + 1 + v ≤ 6 := by omega
  have ml : (P.letters.length : Int) < (P.letters.length : Int) + 1 + v := by omega
  generalize (P.letters.length : Int) + 1 + v = m at *
  refine l5_ok (b := b) (P := P) (m := m) (by simp [L.e1]) (by simp [L.len]) (by simp [L.len]) bg2 pk ml m6 fun w h3 k bg3 f3 => ?_
  have I : LI b T P m w (((σ.set 3 (some (eP P))).set 4 (some (.int m))).set 5 (some (eW w))) h3 := ⟨by simp [L.len], by simp [L.e1], by simp [L.len], by simp [L.len], by simp [L.len], bg3, f3.1 T _ (bag_ne bg2 t2) t2⟩
  generalize ((σ.set 3 (some (eP P))).set 4 (some (.int m))).set 5 (some (eW w)) = τ at *
  refine l6_ok I.e3 I.e5 pk k m0 m6 ?_
  refine l7_ok I pk k m0 m6 fun τ1 g1 I => ?_
  refine l8_ok I pk k fun τ2 g2 I => ?_
  refine l9_ok I pk k fun τ3 g3 I => ?_
  refine l10_ok I k ?_
  refine l11_ok I m0 m6 fun o g4 r I1 => ?_
  have e17 := I.at (i := 17) (d := eI o) (by decide)
  refine l12_ok I1 e17 r pk k m0 m6 ?_
  have I2 := I1.set (i := 18) (o := some (otherW P w o)) (by decide)
  have I3 := I2.set (i := 19) (o := some (eW (leastW w))) (by decide)
  refine l13_ok I3 (by rw [List.getElem?_set_ne (by decide), List.getElem?_set_ne (by decide)]; exact e17) (by rw [List.getElem?_set_ne (by decide)]; exact I1.at (by decide)) r pk k m0 m6 ?_
  refine l14_ok I3 ?_
  have I4 := I3.set (i := 12) (o := some (.tup ((leastW w).tabs.map eTab))) (by decide)
  refine l15_ok I4 (I3.at (by decide)) (by rw [List.getElem?_set_ne (by decide)]; exact I2.at (by decide)) pk k m0 m6 ?_
  have fl := pk.fl
  refine l16_ok I4.e3 pk ?_
  have I5 := I4.set (i := 13) (o := some (.int ((P.fs.length - 1 : Nat) : Int))) (by decide)
  have e13 := I4.at (i := 13) (d := .int ((P.fs.length - 1 : Nat) : Int)) (by decide)
  refine l17_ok I5.e4 ?_
  have I6 := I5.set (i := 23) (o := some (eI [m - 1, m - 1, m - 1])) (by decide)
  refine l18_ok I6.e4 (I5.at (by decide)) fun p24 hp24 => ?_
  have I7 := (I6.set (i := 24) (o := some (.ref p24)) (by decide)).sub (Sub.new (o := .lst ((bentTabs m).map eTab)) hp24)
  have e24 := I6.at (i := 24) (d := .ref p24) (by decide)
  have e13' : ((List.set (List.set (((((((τ3.set 17 (some (eI o))).set 18 (some (otherW P w o))).set 19 (some (eW (leastW w)))).set 12 (some (.tup ((leastW w).tabs.map eTab)))).set 13 (some (.int ((P.fs.length - 1 : Nat) : Int)))))) 23 (some (eI [m - 1, m - 1, m - 1]))) 24 (some (D.ref p24))))[13]? = some (some (.int ((P.fs.length - 1 : Nat) : Int))) := by
    rw [List.getElem?_set_ne (by decide), List.getElem?_set_ne (by decide)]; exact e13
  generalize (List.set (List.set (((((((τ3.set 17 (some (eI o))).set 18 (some (otherW P w o))).set 19 (some (eW (leastW w)))).set 12 (some (.tup ((leastW w).tabs.map eTab)))).set 13 (some (.int ((P.fs.length - 1 : Nat) : Int)))))) 23 (some (eI [m - 1, m - 1, m - 1]))) 24 (some (D.ref p24))) = ρ at *
  have h24 : aup g4 p24 (.lst ((bentTabs m).map eTab)) p24 = some (.lst ((bentTabs m).map eTab)) := aup_same
  generalize aup g4 p24 (.lst ((bentTabs m).map eTab)) = g5 at *
  refine l19_ok (n := P.fs.length - 1) (by rw [k.tl]; exact fl.2) I7 e13' e24 h24 fun p25 hp25 => ?_
  have nn := k.nn pk
  have el : ((bentTabs m).map fun t => pr (eW { w with tabs := w.tabs.take (P.fs.length - 1) ++ [t] }, "functions")) = ((bentTabs m).map fun t => (eW { w with tabs := w.tabs.take (P.fs.length - 1) ++ [t] }, ("functions" : Str))).map pr := by rw [List.map_map]; rfl
  rw [el]
  have I8 := (I7.set (i := 25) (o := some (.ref p25)) (by decide)).sub (Sub.new (o := .lst (((bentTabs m).map fun t => (eW { w with tabs := w.tabs.take (P.fs.length - 1) ++ [t] }, ("functions" : Str))).map pr)) hp25)
  have B8 : BL P (ρ.set 25 (some (.ref p25))) (aup g5 p25 (.lst (((bentTabs m).map fun t => (eW { w with tabs := w.tabs.take (P.fs.length - 1) ++ [t] }, ("functions" : Str))).map pr))) ((bentTabs m).map fun t => (eW { w with tabs := w.tabs.take (P.fs.length - 1) ++ [t] }, ("functions" : Str))) := by
    refine ⟨⟨p25, I7.at (by decide), aup_same⟩, fun z hz => ?_, by rw [List.length_map]; show 6 ≤ 100; decide⟩
    obtain ⟨t, ht, rfl⟩ := List.mem_map.mp hz
    refine ⟨bad_tabs pk k m0 m6 (fun u hu => ?_) (bent_fns (n := P.fs.length - 1) (b := t) pk.last ?_ (bent_wrong ht)), ok_functions⟩
    · rcases List.mem_append.mp hu with hu | hu
      · exact nn.t u (List.mem_of_mem_take hu)
      · simp at hu; rw [hu]; exact bent_nn m0 ht
    · have hl : (w.tabs.take (P.fs.length - 1)).length = P.fs.length - 1 := by rw [List.length_take, k.tl]; omega
      rw [List.getElem?_append_right (by omega), hl]; simp
  generalize aup g5 p25 (.lst (((bentTabs m).map fun t => (eW { w with tabs := w.tabs.take (P.fs.length - 1) ++ [t] }, ("functions" : Str))).map pr)) = g6 at *
  refine l20_ok (n := P.fs.length - 1) pk k m0 m6 (by omega) I8 (by rw [List.getElem?_set_ne (by decide)]; exact e13') B8 (by rw [List.length_map]; show 6 ≤ 50; decide) fun p26 g7 s7 B9 => ?_
  have I9 := (I8.set (i := 25) (o := some (.ref p26)) (by decide)).sub s7
  refine l21_ok pk I9 B9 (by rw [List.length_append, List.length_map]; show 6 + 3 ≤ 60; decide) fun p27 l' g8 s8 B10 => ?_
  have I10 := (I9.set (i := 25) (o := some (.ref p27)) (by decide)).sub s8
  refine l22_ok I10 B10 ?_
  refine l23_ok I10 pk k fun g9 I11 => ?_
  refine l24_ok I11 pk k fun g10 I12 => ?_
  exact l25_ok I12 pk k fun g11 I13 => q _ _ I13.ll
theorem pure_law (CB CT CN T : Addr) (l : Addr) (ns : List Int) (ds : List D) (h : AH) (R : DK) (E : AXK) (q : sp_law T q_law l ns ds h R E) : t_law CB CT CN l ns T { nx := fun _ h' => fgR R .non h', rt := fgR R } (astart N_law ds) h := by
  obtain ⟨rfl, hl, rfl, q⟩ := q
  rw [t_law_eq]
  simp only [aSeq_def, aSet_def, aCallF, aCons_def, aNil_def]
  have e0 : (astart N_law [.ref l])[0]? = some (some (.ref l)) := rfl
  simp only [aVar_def, e0]
  refine ⟨rfl, hl, fun p1 p2 h1 n2 h2 => ?_⟩
  have nT1 : p1 ≠ T := fun z => by simp [z] at h1
  have nT2 : p2 ≠ T := fun z => by simp [z] at h2
  have L : LL p2 T ((astart N_law [.ref l]).set 1 (some (.ref p2))) (aup (aup (fun a => if a = T then some (.tab q_law) else none) p1 (.lst ((ns.map fun n => if n < 0 then -n else n).map D.int))) p2 (.lst [.int 0, .int 1234567891, .int 0, .ref p1])) := by
    refine ⟨rfl, rfl, ⟨p1, 0, 1234567891, 0, _, aup_same, n2.symm, by rw [aup_ne n2.symm, aup_same], by decide, by decide, by decide, fun c hc => ?_, by simp; omega⟩, by rw [aup_ne nT2.symm, aup_ne nT1.symm, if_pos rfl]⟩
    obtain ⟨n, _, rfl⟩ := List.mem_map.mp hc
    show 0 ≤ if n < 0 then -n else n
    split <;> omega
  refine forRg (LL p2 T) (by decide) (by decide) L (fun j σ h _ L E' _ nx => ?_) fun σ h L => ?_
  · exact lap_ok (σ := σ.set 2 (some (.int j))) ⟨by simp [L.len], by rw [List.getElem?_set_ne (by decide)]; exact L.e1, L.bag, L.tab⟩ nx
  · simp only [aRet_def, aC_def]
    exact fgr (q h)
end
end AX

set_option Elab.async false
set_option linter.all false
set_option maxRecDepth 100000
set_option maxHeartbeats 0

namespace AX
open PySem PySem.Spec PyProof.Rows L2 He LamX
def d_is_number : DefD := ⟨("is_number", none), "is_number", "is_number", defArgs s_is_number, defBody s_is_number, defScope s_is_number, [], []⟩
def d_is_index : DefD := ⟨("is_index", none), "is_index", "is_index", defArgs s_is_index, defBody s_is_index, defScope s_is_index, [], []⟩
def d_is_row_form : DefD := ⟨("is_row_form", none), "is_row_form", "is_row_form", defArgs s_is_row_form, defBody s_is_row_form, defScope s_is_row_form, [], []⟩
def d_is_function_form : DefD := ⟨("is_function_form", none), "is_function_form", "is_function_form", defArgs s_is_function_form, defBody s_is_function_form, defScope s_is_function_form, [], []⟩
def d_are_indexes : DefD := ⟨("are_indexes", none), "are_indexes", "are_indexes", defArgs s_are_indexes, defBody s_are_indexes, defScope s_are_indexes, [], []⟩
def d_is_world_form : DefD := ⟨("is_world_form", none), "is_world_form", "is_world_form", defArgs s_is_world_form, defBody s_is_world_form, defScope s_is_world_form, [], []⟩
def d_are_below : DefD := ⟨("are_below", none), "are_below", "are_below", defArgs s_are_below, defBody s_are_below, defScope s_are_below, [], []⟩
def d_is_right_row : DefD := ⟨("is_right_row", none), "is_right_row", "is_right_row", defArgs s_is_right_row, defBody s_is_right_row, defScope s_is_right_row, [], []⟩
def d_is_right_function : DefD := ⟨("is_right_function", none), "is_right_function", "is_right_function", defArgs s_is_right_function, defBody s_is_right_function, defScope s_is_right_function, [], []⟩
def d_are_right_functions : DefD := ⟨("are_right_functions", none), "are_right_functions", "are_right_functions", defArgs s_are_right_functions, defBody s_are_right_functions, defScope s_are_right_functions, [], []⟩
def d_world_fault : DefD := ⟨("world_fault", none), "world_fault", "world_fault", defArgs s_world_fault, defBody s_world_fault, defScope s_world_fault, [], []⟩
def d_checked_world : DefD := ⟨("checked_world", none), "checked_world", "checked_world", defArgs s_checked_world, defBody s_checked_world, defScope s_checked_world, [], []⟩
def d_function_at : DefD := ⟨("function_at", none), "function_at", "function_at", defArgs s_function_at, defBody s_function_at, defScope s_function_at, [], []⟩
def d_applied : DefD := ⟨("applied", none), "applied", "applied", defArgs s_applied, defBody s_applied, defScope s_applied, [], []⟩
def d_letter_worth : DefD := ⟨("letter_worth", none), "letter_worth", "letter_worth", defArgs s_letter_worth, defBody s_letter_worth, defScope s_letter_worth, [], []⟩
def d_input_worth : DefD := ⟨("input_worth", none), "input_worth", "input_worth", defArgs s_input_worth, defBody s_input_worth, defScope s_input_worth, [], []⟩
def d_any_worth : DefD := ⟨("any_worth", none), "any_worth", "any_worth", defArgs s_any_worth, defBody s_any_worth, defScope s_any_worth, [], []⟩
def d_row_otherwise : DefD := ⟨("row_otherwise", none), "row_otherwise", "row_otherwise", defArgs s_row_otherwise, defBody s_row_otherwise, defScope s_row_otherwise, [], []⟩
def d_put_otherwise : DefD := ⟨("put_otherwise", none), "put_otherwise", "put_otherwise", defArgs s_put_otherwise, defBody s_put_otherwise, defScope s_put_otherwise, [], []⟩
def d_least_world : DefD := ⟨("least_world", none), "least_world", "least_world", defArgs s_least_world, defBody s_least_world, defScope s_least_world, [], []⟩
def d__law_take : DefD := ⟨("_law_take", none), "_law_take", "_law_take", defArgs s__law_take, defBody s__law_take, defScope s__law_take, [], []⟩
def d__law_some : DefD := ⟨("_law_some", none), "_law_some", "_law_some", defArgs s__law_some, defBody s__law_some, defScope s__law_some, [], []⟩
def d__law_mixed : DefD := ⟨("_law_mixed", none), "_law_mixed", "_law_mixed", defArgs s__law_mixed, defBody s__law_mixed, defScope s__law_mixed, [], []⟩
def d__law_alike : DefD := ⟨("_law_alike", none), "_law_alike", "_law_alike", defArgs s__law_alike, defBody s__law_alike, defScope s__law_alike, [], []⟩
def d__law_longer : DefD := ⟨("_law_longer", none), "_law_longer", "_law_longer", defArgs s__law_longer, defBody s__law_longer, defScope s__law_longer, [], []⟩
def d__law_world : DefD := ⟨("_law_world", none), "_law_world", "_law_world", defArgs s__law_world, defBody s__law_world, defScope s__law_world, [], []⟩
def d__law_applied : DefD := ⟨("_law_applied", none), "_law_applied", "_law_applied", defArgs s__law_applied, defBody s__law_applied, defScope s__law_applied, [], []⟩
def d__law_wide_functions : DefD := ⟨("_law_wide_functions", none), "_law_wide_functions", "_law_wide_functions", defArgs s__law_wide_functions, defBody s__law_wide_functions, defScope s__law_wide_functions, [], []⟩
def d__law_wide_frame : DefD := ⟨("_law_wide_frame", none), "_law_wide_frame", "_law_wide_frame", defArgs s__law_wide_frame, defBody s__law_wide_frame, defScope s__law_wide_frame, [], []⟩
def d__law_called : DefD := ⟨("_law_called", none), "_law_called", "_law_called", defArgs s__law_called, defBody s__law_called, defScope s__law_called, [], []⟩
def d__law_fault : DefD := ⟨("_law_fault", none), "_law_fault", "_law_fault", defArgs s__law_fault, defBody s__law_fault, defScope s__law_fault, [], []⟩
def d__law_bag : DefD := ⟨("_law_bag", none), "_law_bag", "_law_bag", defArgs s__law_bag, defBody s__law_bag, defScope s__law_bag, [], []⟩
def d_law : DefD := ⟨("law", none), "law", "law", defArgs s_law, defBody s_law, defScope s_law, [], []⟩
def d__law_refused : DefD := ⟨("_law_refused", none), "_law_refused", "_law_refused", defArgs s__law_refused, defBody s__law_refused, defScope s__law_refused, [], []⟩
def fnAll : List DefD := [d_is_number, d_is_index, d_is_row_form, d_is_function_form, d_are_indexes, d_is_world_form, d_are_below, d_is_right_row, d_is_right_function, d_are_right_functions, d_world_fault, d_checked_world, d_function_at, d_applied, d_letter_worth, d_input_worth, d_any_worth, d_row_otherwise, d_put_otherwise, d_least_world, d__law_take, d__law_some, d__law_mixed, d__law_alike, d__law_longer, d__law_world, d__law_applied, d__law_wide_functions, d__law_wide_frame, d__law_called, d__law_fault, d__law_bag, d_law, d__law_refused]
def faAll : List Fa := [.glo "is_number", .glo "is_index", .glo "is_row_form", .glo "is_function_form", .glo "are_indexes", .glo "is_world_form", .glo "are_below", .glo "is_right_row", .glo "is_right_function", .glo "are_right_functions", .glo "world_fault", .glo "checked_world", .glo "function_at", .glo "applied", .glo "letter_worth", .glo "input_worth", .glo "any_worth", .glo "row_otherwise", .glo "put_otherwise", .glo "least_world", .glo "_law_take", .glo "_law_some", .glo "_law_mixed", .glo "_law_alike", .glo "_law_longer", .glo "_law_world", .glo "_law_applied", .glo "_law_wide_functions", .glo "_law_wide_frame", .glo "_law_called", .glo "_law_fault", .glo "_law_bag", .glo "law", .glo "_law_refused", .free "isinstance", .free "bool", .free "int", .free "tuple", .free "len", .free "all", .free "zip", .int "MOST_WORTHS" 2100, .free "enumerate", .free "sorted", .free "dict", .free "list", .free "range", .free "repr", .noat "TooLarge" "limit", .noat "TooLarge" "what", .noat "BadWorld" "fault", .free "abs", .glo "BadWorld", .exm "BadWorld" "BadWorld" true, .exm "BadWorld" "TooLarge" false, .exm "BadWorld" "Nothing" false, .glo "TooLarge", .exm "TooLarge" "BadWorld" false, .exm "TooLarge" "TooLarge" true, .exm "TooLarge" "Nothing" false, .glo "Nothing", .exc "Nothing", .exm "Nothing" "BadWorld" false, .exm "Nothing" "TooLarge" false, .exm "Nothing" "Nothing" true, .free "super"]
abbrev i_BadWorld : Stmt := clsInit (topS 3)
def in_BadWorld : InD := ⟨"BadWorld", "BadWorld.__init__", defArgs i_BadWorld, defBody i_BadWorld, defScope i_BadWorld⟩
abbrev i_TooLarge : Stmt := clsInit (topS 5)
def in_TooLarge : InD := ⟨"TooLarge", "TooLarge.__init__", defArgs i_TooLarge, defBody i_TooLarge, defScope i_TooLarge⟩
def inAll : List InD := [in_BadWorld, in_TooLarge]
def exAll (K : PySem.W.Frag) : Bool := iniB PySem.Challenge.pw_heldterms_k75_worlds_of_three_parts K "BadWorld" "BadWorld.__init__" && (iniB PySem.Challenge.pw_heldterms_k75_worlds_of_three_parts K "TooLarge" "TooLarge.__init__" && (xfB K (ga K "BadWorld") && (xfB K (ga K "TooLarge"))))
def tfAll : List Defn := [("law", none)]
theorem facts {w : World} {K : PySem.W.Frag} {h : Heap} {mg : Str → Option Value} {f : Addr} (X : K.In h) (G : h.Ns mainGlobals mg) (hfa : mg ("law" : Str) = some (.ref f)) (c : SaysY faAll fnAll [] inAll tfAll exAll w h K) :
    ∃ (fd : FuncData) (c T : Addr), h.get? T = some { cls := .none, data := .fields #[] } ∧ K.lookup T = none ∧ PySem.W.CodeHd h c T ∧ (∀ (s : Shared) (v : Value), BindsTo s fd ⟨[v], []⟩ [("script", v)]) ∧
      ∀ base : Heap, K.In base → base.Ns mainGlobals mg → TabB base mg c T → FnG True PySem.Challenge.pw_heldterms_k75_worlds_of_three_parts w K mg base 10 f fd ["script"] (upSpF PySem.Challenge.pw_heldterms_k75_worlds_of_three_parts w K (spLaw T q_law)) := by
  obtain ⟨fd_is_number, F_is_number⟩ := c.t.d.def_ 0 (d := d_is_number) rfl
  have m_is_number := glo_ok X G (c.t.d.fact 0 (f := .glo "is_number") rfl)
  have b_is_number := FunD.bindsN (ps := ["thing"]) F_is_number fun _ _ _ _ _ _ us hl => match us, hl with | [_], _ => rfl
  obtain ⟨fd_is_index, F_is_index⟩ := c.t.d.def_ 1 (d := d_is_index) rfl
  have m_is_index := glo_ok X G (c.t.d.fact 1 (f := .glo "is_index") rfl)
  have b_is_index := FunD.bindsN (ps := ["thing"]) F_is_index fun _ _ _ _ _ _ us hl => match us, hl with | [_], _ => rfl
  obtain ⟨fd_is_row_form, F_is_row_form⟩ := c.t.d.def_ 2 (d := d_is_row_form) rfl
  have m_is_row_form := glo_ok X G (c.t.d.fact 2 (f := .glo "is_row_form") rfl)
  have b_is_row_form := FunD.bindsN (ps := ["thing"]) F_is_row_form fun _ _ _ _ _ _ us hl => match us, hl with | [_], _ => rfl
  obtain ⟨fd_is_function_form, F_is_function_form⟩ := c.t.d.def_ 3 (d := d_is_function_form) rfl
  have m_is_function_form := glo_ok X G (c.t.d.fact 3 (f := .glo "is_function_form") rfl)
  have b_is_function_form := FunD.bindsN (ps := ["thing"]) F_is_function_form fun _ _ _ _ _ _ us hl => match us, hl with | [_], _ => rfl
  obtain ⟨fd_are_indexes, F_are_indexes⟩ := c.t.d.def_ 4 (d := d_are_indexes) rfl
  have m_are_indexes := glo_ok X G (c.t.d.fact 4 (f := .glo "are_indexes") rfl)
  have b_are_indexes := FunD.bindsN (ps := ["thing"]) F_are_indexes fun _ _ _ _ _ _ us hl => match us, hl with | [_], _ => rfl
  obtain ⟨fd_is_world_form, F_is_world_form⟩ := c.t.d.def_ 5 (d := d_is_world_form) rfl
  have m_is_world_form := glo_ok X G (c.t.d.fact 5 (f := .glo "is_world_form") rfl)
  have b_is_world_form := FunD.bindsN (ps := ["thing"]) F_is_world_form fun _ _ _ _ _ _ us hl => match us, hl with | [_], _ => rfl
  obtain ⟨fd_are_below, F_are_below⟩ := c.t.d.def_ 6 (d := d_are_below) rfl
  have m_are_below := glo_ok X G (c.t.d.fact 6 (f := .glo "are_below") rfl)
  have b_are_below := FunD.bindsN (ps := ["worths", "many"]) F_are_below fun _ _ _ _ _ _ us hl => match us, hl with | [_, _], _ => rfl
  obtain ⟨fd_is_right_row, F_is_right_row⟩ := c.t.d.def_ 7 (d := d_is_right_row) rfl
  have m_is_right_row := glo_ok X G (c.t.d.fact 7 (f := .glo "is_right_row") rfl)
  have b_is_right_row := FunD.bindsN (ps := ["function", "many", "row"]) F_is_right_row fun _ _ _ _ _ _ us hl => match us, hl with | [_, _, _], _ => rfl
  obtain ⟨fd_is_right_function, F_is_right_function⟩ := c.t.d.def_ 8 (d := d_is_right_function) rfl
  have m_is_right_function := glo_ok X G (c.t.d.fact 8 (f := .glo "is_right_function") rfl)
  have b_is_right_function := FunD.bindsN (ps := ["function", "many", "told"]) F_is_right_function fun _ _ _ _ _ _ us hl => match us, hl with | [_, _, _], _ => rfl
  obtain ⟨fd_are_right_functions, F_are_right_functions⟩ := c.t.d.def_ 9 (d := d_are_right_functions) rfl
  have m_are_right_functions := glo_ok X G (c.t.d.fact 9 (f := .glo "are_right_functions") rfl)
  have b_are_right_functions := FunD.bindsN (ps := ["program", "many", "functions"]) F_are_right_functions fun _ _ _ _ _ _ us hl => match us, hl with | [_, _, _], _ => rfl
  obtain ⟨fd_world_fault, F_world_fault⟩ := c.t.d.def_ 10 (d := d_world_fault) rfl
  have m_world_fault := glo_ok X G (c.t.d.fact 10 (f := .glo "world_fault") rfl)
  have b_world_fault := FunD.bindsN (ps := ["program", "world"]) F_world_fault fun _ _ _ _ _ _ us hl => match us, hl with | [_, _], _ => rfl
  obtain ⟨fd_checked_world, F_checked_world⟩ := c.t.d.def_ 11 (d := d_checked_world) rfl
  have m_checked_world := glo_ok X G (c.t.d.fact 11 (f := .glo "checked_world") rfl)
  have b_checked_world := FunD.bindsN (ps := ["program", "thing"]) F_checked_world fun _ _ _ _ _ _ us hl => match us, hl with | [_, _], _ => rfl
  obtain ⟨fd_function_at, F_function_at⟩ := c.t.d.def_ 12 (d := d_function_at) rfl
  have m_function_at := glo_ok X G (c.t.d.fact 12 (f := .glo "function_at") rfl)
  have b_function_at := FunD.bindsN (ps := ["program", "f"]) F_function_at fun _ _ _ _ _ _ us hl => match us, hl with | [_, _], _ => rfl
  obtain ⟨fd_applied, F_applied⟩ := c.t.d.def_ 13 (d := d_applied) rfl
  have m_applied := glo_ok X G (c.t.d.fact 13 (f := .glo "applied") rfl)
  have b_applied := FunD.bindsN (ps := ["program", "world", "f", "worths"]) F_applied fun _ _ _ _ _ _ us hl => match us, hl with | [_, _, _, _], _ => rfl
  obtain ⟨fd_letter_worth, F_letter_worth⟩ := c.t.d.def_ 14 (d := d_letter_worth) rfl
  have m_letter_worth := glo_ok X G (c.t.d.fact 14 (f := .glo "letter_worth") rfl)
  have b_letter_worth := FunD.bindsN (ps := ["program", "world", "a"]) F_letter_worth fun _ _ _ _ _ _ us hl => match us, hl with | [_, _, _], _ => rfl
  obtain ⟨fd_input_worth, F_input_worth⟩ := c.t.d.def_ 15 (d := d_input_worth) rfl
  have m_input_worth := glo_ok X G (c.t.d.fact 15 (f := .glo "input_worth") rfl)
  have b_input_worth := FunD.bindsN (ps := ["program", "world", "x"]) F_input_worth fun _ _ _ _ _ _ us hl => match us, hl with | [_, _, _], _ => rfl
  obtain ⟨fd_any_worth, F_any_worth⟩ := c.t.d.def_ 16 (d := d_any_worth) rfl
  have m_any_worth := glo_ok X G (c.t.d.fact 16 (f := .glo "any_worth") rfl)
  have b_any_worth := FunD.bindsN (ps := ["world", "k"]) F_any_worth fun _ _ _ _ _ _ us hl => match us, hl with | [_, _], _ => rfl
  obtain ⟨fd_row_otherwise, F_row_otherwise⟩ := c.t.d.def_ 17 (d := d_row_otherwise) rfl
  have m_row_otherwise := glo_ok X G (c.t.d.fact 17 (f := .glo "row_otherwise") rfl)
  have b_row_otherwise := FunD.bindsN (ps := ["function", "order", "row"]) F_row_otherwise fun _ _ _ _ _ _ us hl => match us, hl with | [_, _, _], _ => rfl
  obtain ⟨fd_put_otherwise, F_put_otherwise⟩ := c.t.d.def_ 18 (d := d_put_otherwise) rfl
  have m_put_otherwise := glo_ok X G (c.t.d.fact 18 (f := .glo "put_otherwise") rfl)
  have b_put_otherwise := FunD.bindsN (ps := ["program", "world", "order"]) F_put_otherwise fun _ _ _ _ _ _ us hl => match us, hl with | [_, _, _], _ => rfl
  obtain ⟨fd_least_world, F_least_world⟩ := c.t.d.def_ 19 (d := d_least_world) rfl
  have m_least_world := glo_ok X G (c.t.d.fact 19 (f := .glo "least_world") rfl)
  have b_least_world := FunD.bindsN (ps := ["program", "world"]) F_least_world fun _ _ _ _ _ _ us hl => match us, hl with | [_, _], _ => rfl
  obtain ⟨fd__law_take, F__law_take⟩ := c.t.d.def_ 20 (d := d__law_take) rfl
  have m__law_take := glo_ok X G (c.t.d.fact 20 (f := .glo "_law_take") rfl)
  have b__law_take := FunD.bindsN (ps := ["bag", "many"]) F__law_take fun _ _ _ _ _ _ us hl => match us, hl with | [_, _], _ => rfl
  obtain ⟨fd__law_some, F__law_some⟩ := c.t.d.def_ 21 (d := d__law_some) rfl
  have m__law_some := glo_ok X G (c.t.d.fact 21 (f := .glo "_law_some") rfl)
  have b__law_some := FunD.bindsN (ps := ["bag", "things"]) F__law_some fun _ _ _ _ _ _ us hl => match us, hl with | [_, _], _ => rfl
  obtain ⟨fd__law_mixed, F__law_mixed⟩ := c.t.d.def_ 22 (d := d__law_mixed) rfl
  have m__law_mixed := glo_ok X G (c.t.d.fact 22 (f := .glo "_law_mixed") rfl)
  have b__law_mixed := FunD.bindsN (ps := ["bag", "things"]) F__law_mixed fun _ _ _ _ _ _ us hl => match us, hl with | [_, _], _ => rfl
  obtain ⟨fd__law_alike, F__law_alike⟩ := c.t.d.def_ 23 (d := d__law_alike) rfl
  have m__law_alike := glo_ok X G (c.t.d.fact 23 (f := .glo "_law_alike") rfl)
  have b__law_alike := FunD.bindsN (ps := ["found", "due"]) F__law_alike fun _ _ _ _ _ _ us hl => match us, hl with | [_, _], _ => rfl
  obtain ⟨fd__law_longer, F__law_longer⟩ := c.t.d.def_ 24 (d := d__law_longer) rfl
  have m__law_longer := glo_ok X G (c.t.d.fact 24 (f := .glo "_law_longer") rfl)
  have b__law_longer := FunD.bindsN (ps := ["keys", "many", "how"]) F__law_longer fun _ _ _ _ _ _ us hl => match us, hl with | [_, _, _], _ => rfl
  obtain ⟨fd__law_world, F__law_world⟩ := c.t.d.def_ 25 (d := d__law_world) rfl
  have m__law_world := glo_ok X G (c.t.d.fact 25 (f := .glo "_law_world") rfl)
  have b__law_world := FunD.bindsN (ps := ["bag", "program", "many", "anys"]) F__law_world fun _ _ _ _ _ _ us hl => match us, hl with | [_, _, _, _], _ => rfl
  obtain ⟨fd__law_applied, F__law_applied⟩ := c.t.d.def_ 26 (d := d__law_applied) rfl
  have m__law_applied := glo_ok X G (c.t.d.fact 26 (f := .glo "_law_applied") rfl)
  have b__law_applied := FunD.bindsN (ps := ["program", "world", "f", "worths"]) F__law_applied fun _ _ _ _ _ _ us hl => match us, hl with | [_, _, _, _], _ => rfl
  obtain ⟨fd__law_wide_functions, F__law_wide_functions⟩ := c.t.d.def_ 27 (d := d__law_wide_functions) rfl
  have m__law_wide_functions := glo_ok X G (c.t.d.fact 27 (f := .glo "_law_wide_functions") rfl)
  have b__law_wide_functions := FunD.bindsN (ps := ["bag"]) F__law_wide_functions fun _ _ _ _ _ _ us hl => match us, hl with | [_], _ => rfl
  obtain ⟨fd__law_wide_frame, F__law_wide_frame⟩ := c.t.d.def_ 28 (d := d__law_wide_frame) rfl
  have m__law_wide_frame := glo_ok X G (c.t.d.fact 28 (f := .glo "_law_wide_frame") rfl)
  have b__law_wide_frame := FunD.bindsN (ps := ["bag"]) F__law_wide_frame fun _ _ _ _ _ _ us hl => match us, hl with | [_], _ => rfl
  obtain ⟨fd__law_called, F__law_called⟩ := c.t.d.def_ 29 (d := d__law_called) rfl
  have m__law_called := glo_ok X G (c.t.d.fact 29 (f := .glo "_law_called") rfl)
  have b__law_called := FunD.bindsN (ps := ["program", "world", "order"]) F__law_called fun _ _ _ _ _ _ us hl => match us, hl with | [_, _, _], _ => rfl
  obtain ⟨fd__law_fault, F__law_fault⟩ := c.t.d.def_ 30 (d := d__law_fault) rfl
  have m__law_fault := glo_ok X G (c.t.d.fact 30 (f := .glo "_law_fault") rfl)
  have b__law_fault := FunD.bindsN (ps := ["program", "thing"]) F__law_fault fun _ _ _ _ _ _ us hl => match us, hl with | [_, _], _ => rfl
  obtain ⟨fd__law_bag, F__law_bag⟩ := c.t.d.def_ 31 (d := d__law_bag) rfl
  have m__law_bag := glo_ok X G (c.t.d.fact 31 (f := .glo "_law_bag") rfl)
  have b__law_bag := FunD.bindsN (ps := ["script"]) F__law_bag fun _ _ _ _ _ _ us hl => match us, hl with | [_], _ => rfl
  obtain ⟨fd_law, F_law⟩ := c.t.d.def_ 32 (d := d_law) rfl
  have m_law := glo_ok X G (c.t.d.fact 32 (f := .glo "law") rfl)
  obtain ⟨fd__law_refused, F__law_refused⟩ := c.t.d.def_ 33 (d := d__law_refused) rfl
  have m__law_refused := glo_ok X G (c.t.d.fact 33 (f := .glo "_law_refused") rfl)
  have b__law_refused := FunD.bindsN (ps := ["act"]) F__law_refused fun _ _ _ _ _ _ us hl => match us, hl with | [_], _ => rfl
  have z_isinstance := free_ok X G (c.t.d.fact 34 (f := .free "isinstance") rfl)
  have z_bool := free_ok X G (c.t.d.fact 35 (f := .free "bool") rfl)
  have z_int := free_ok X G (c.t.d.fact 36 (f := .free "int") rfl)
  have z_tuple := free_ok X G (c.t.d.fact 37 (f := .free "tuple") rfl)
  have z_len := free_ok X G (c.t.d.fact 38 (f := .free "len") rfl)
  have z_all := free_ok X G (c.t.d.fact 39 (f := .free "all") rfl)
  have z_zip := free_ok X G (c.t.d.fact 40 (f := .free "zip") rfl)
  have k_MOST_WORTHS : ∃ u, mg "MOST_WORTHS" = some u ∧ RelV (.int 2100) u := (int_ok X G (c.t.d.fact 41 (f := .int "MOST_WORTHS" 2100) rfl)).elim fun t e => ⟨_, e, t, rfl⟩
  have z_enumerate := free_ok X G (c.t.d.fact 42 (f := .free "enumerate") rfl)
  have z_sorted := free_ok X G (c.t.d.fact 43 (f := .free "sorted") rfl)
  have z_dict := free_ok X G (c.t.d.fact 44 (f := .free "dict") rfl)
  have z_list := free_ok X G (c.t.d.fact 45 (f := .free "list") rfl)
  have z_range := free_ok X G (c.t.d.fact 46 (f := .free "range") rfl)
  have z_repr := free_ok X G (c.t.d.fact 47 (f := .free "repr") rfl)
  have n_TooLarge_limit : PySem.W.findIn K (.ref (ga K "TooLarge")) "limit" = some none := noat_ok (c.t.d.fact 48 (f := .noat "TooLarge" "limit") rfl)
  have n_TooLarge_what : PySem.W.findIn K (.ref (ga K "TooLarge")) "what" = some none := noat_ok (c.t.d.fact 49 (f := .noat "TooLarge" "what") rfl)
  have n_BadWorld_fault : PySem.W.findIn K (.ref (ga K "BadWorld")) "fault" = some none := noat_ok (c.t.d.fact 50 (f := .noat "BadWorld" "fault") rfl)
  have z_abs := free_ok X G (c.t.d.fact 51 (f := .free "abs") rfl)
  have g_BadWorld := glo_ok X G (c.t.d.fact 52 (f := .glo "BadWorld") rfl)
  have e_BadWorld_BadWorld := exm_ok (c.t.d.fact 53 (f := .exm "BadWorld" "BadWorld" true) rfl)
  have e_BadWorld_TooLarge := exm_ok (c.t.d.fact 54 (f := .exm "BadWorld" "TooLarge" false) rfl)
  have e_BadWorld_Nothing := exm_ok (c.t.d.fact 55 (f := .exm "BadWorld" "Nothing" false) rfl)
  have g_TooLarge := glo_ok X G (c.t.d.fact 56 (f := .glo "TooLarge") rfl)
  have e_TooLarge_BadWorld := exm_ok (c.t.d.fact 57 (f := .exm "TooLarge" "BadWorld" false) rfl)
  have e_TooLarge_TooLarge := exm_ok (c.t.d.fact 58 (f := .exm "TooLarge" "TooLarge" true) rfl)
  have e_TooLarge_Nothing := exm_ok (c.t.d.fact 59 (f := .exm "TooLarge" "Nothing" false) rfl)
  have g_Nothing := glo_ok X G (c.t.d.fact 60 (f := .glo "Nothing") rfl)
  have x_Nothing : Exo K mg "Nothing" (ga K "Nothing") := by
    obtain ⟨h1, h2, h3, h4⟩ := exc_ok (c.t.d.fact 61 (f := .exc "Nothing") rfl)
    exact ⟨g_Nothing, ⟨_, PySem.F.excBase_ValueError, h1⟩, h2, h3, h4⟩
  have e_Nothing_BadWorld := exm_ok (c.t.d.fact 62 (f := .exm "Nothing" "BadWorld" false) rfl)
  have e_Nothing_TooLarge := exm_ok (c.t.d.fact 63 (f := .exm "Nothing" "TooLarge" false) rfl)
  have e_Nothing_Nothing := exm_ok (c.t.d.fact 64 (f := .exm "Nothing" "Nothing" true) rfl)
  have z_super := free_ok X G (c.t.d.fact 65 (f := .free "super") rfl)
  have more := c.more
  unfold exAll at more
  obtain ⟨q_BadWorld, mr0⟩ := ba more
  obtain ⟨q_TooLarge, mr1⟩ := ba mr0
  obtain ⟨t_BadWorld, mr2⟩ := ba mr1
  have t_TooLarge := mr2
  have t_BadWorld := xfB_ok t_BadWorld
  have t_TooLarge := xfB_ok t_TooLarge
  have x_BadWorld : ∀ base : Heap, ExI PySem.Challenge.pw_heldterms_k75_worlds_of_three_parts w K mg base "BadWorld" (ga K "BadWorld") ["fault"] := fun base => by
    obtain ⟨doc, pm, ct, an, cda, T⟩ := ini_ok q_BadWorld in_BadWorld rfl rfl (c.ini_ 0 (d := in_BadWorld) rfl) z_super (by decide +kernel)
    exact exI1 g_BadWorld T n_BadWorld_fault (fun L => ⟨_, rfl⟩) (by decide)
  have x_TooLarge : ∀ base : Heap, ExI PySem.Challenge.pw_heldterms_k75_worlds_of_three_parts w K mg base "TooLarge" (ga K "TooLarge") ["what", "limit"] := fun base => by
    obtain ⟨doc, pm, ct, an, cda, T⟩ := ini_ok q_TooLarge in_TooLarge rfl rfl (c.ini_ 1 (d := in_TooLarge) rfl) z_super (by decide +kernel)
    exact exI2 g_TooLarge T n_TooLarge_what n_TooLarge_limit (fun L => ⟨_, rfl⟩) (by decide)
  have d_BadWorld_TooLarge : ga K "BadWorld" ≠ ga K "TooLarge" := fun z => by
    rw [← z, e_BadWorld_BadWorld] at e_BadWorld_TooLarge
    cases e_BadWorld_TooLarge
  have d_BadWorld_Nothing : ga K "BadWorld" ≠ ga K "Nothing" := fun z => by
    rw [← z, e_BadWorld_BadWorld] at e_BadWorld_Nothing
    cases e_BadWorld_Nothing
  have d_Nothing_TooLarge : ga K "Nothing" ≠ ga K "TooLarge" := fun z => by
    rw [← z, e_Nothing_Nothing] at e_Nothing_TooLarge
    cases e_Nothing_TooLarge
  have eq0 : ExcEq K [ga K "BadWorld", ga K "TooLarge"] := ⟨fun C hC c hc => by
    simp only [List.mem_cons, List.not_mem_nil, or_false] at hC hc
    rcases hC with rfl | rfl <;> rcases hc with rfl | rfl
    · rw [e_BadWorld_BadWorld, decide_eq_true rfl]
    · rw [e_BadWorld_TooLarge, decide_eq_false d_BadWorld_TooLarge]
    · rw [e_TooLarge_BadWorld, decide_eq_false (Ne.symm d_BadWorld_TooLarge)]
    · rw [e_TooLarge_TooLarge, decide_eq_true rfl]⟩
  have e := hfa.symm.trans m_law
  cases e
  have bl := FunD.bindsA (ps := ["script"]) F_law fun _ _ _ _ _ _ us hl => match us, hl with | [_], _ => rfl
  have hT := c.empty ("law", none) (List.Mem.head _)
  have nT := c.out ("law", none) (List.Mem.head _)
  have hC := PySem.W.codeHd_of_K X (c.hd ("law", none) (List.Mem.head _))
  refine ⟨fd_law, _, _, hT, nT, hC, fun s v => bl s [v] rfl, fun base Kb Gb TB => ?_⟩
  have G_is_number (gd : Prop) : FnG gd PySem.Challenge.pw_heldterms_k75_worlds_of_three_parts w K mg base 1 (ga K "is_number") fd_is_number ["thing"] (upSp PySem.Challenge.pw_heldterms_k75_worlds_of_three_parts w K sp_is_number) := ok_is_number F_is_number z_isinstance z_bool z_int (by intro ds h R E q; first | (obtain ⟨rfl, _⟩ := q; rfl) | (obtain ⟨_, rfl, _⟩ := q; rfl) | (obtain ⟨_, _, rfl, _⟩ := q; rfl) | (obtain ⟨_, _, _, rfl, _⟩ := q; rfl) | (obtain ⟨_, _, _, _, rfl, _⟩ := q; rfl) | (obtain ⟨_, _, _, _, _, rfl, _⟩ := q; rfl) | (obtain ⟨_, _, _, _, _, _, rfl, _⟩ := q; rfl) | (obtain ⟨_, _, _, _, _, _, _, rfl, _⟩ := q; rfl)) (pure_is_number)
  have C_is_number (gd : Prop) : Cal gd PySem.Challenge.pw_heldterms_k75_worlds_of_three_parts w K mg base 1 "is_number" ["thing"] sp_is_number := ⟨⟨_, _, G_is_number gd, m_is_number, F_is_number.kp, b_is_number⟩⟩
  have G_is_index (gd : Prop) : FnG gd PySem.Challenge.pw_heldterms_k75_worlds_of_three_parts w K mg base 2 (ga K "is_index") fd_is_index ["thing"] (upSp PySem.Challenge.pw_heldterms_k75_worlds_of_three_parts w K sp_is_index) := ok_is_index F_is_index (C_is_number gd) (by intro ds h R E q; first | (obtain ⟨rfl, _⟩ := q; rfl) | (obtain ⟨_, rfl, _⟩ := q; rfl) | (obtain ⟨_, _, rfl, _⟩ := q; rfl) | (obtain ⟨_, _, _, rfl, _⟩ := q; rfl) | (obtain ⟨_, _, _, _, rfl, _⟩ := q; rfl) | (obtain ⟨_, _, _, _, _, rfl, _⟩ := q; rfl) | (obtain ⟨_, _, _, _, _, _, rfl, _⟩ := q; rfl) | (obtain ⟨_, _, _, _, _, _, _, rfl, _⟩ := q; rfl)) (pure_is_index)
  have C_is_index (gd : Prop) : Cal gd PySem.Challenge.pw_heldterms_k75_worlds_of_three_parts w K mg base 2 "is_index" ["thing"] sp_is_index := ⟨⟨_, _, G_is_index gd, m_is_index, F_is_index.kp, b_is_index⟩⟩
  have G_is_row_form (gd : Prop) : FnG gd PySem.Challenge.pw_heldterms_k75_worlds_of_three_parts w K mg base 3 (ga K "is_row_form") fd_is_row_form ["thing"] (upSp PySem.Challenge.pw_heldterms_k75_worlds_of_three_parts w K sp_is_row_form) := ok_is_row_form F_is_row_form (C_is_index gd) z_isinstance z_tuple z_len z_all (by intro ds h R E q; first | (obtain ⟨rfl, _⟩ := q; rfl) | (obtain ⟨_, rfl, _⟩ := q; rfl) | (obtain ⟨_, _, rfl, _⟩ := q; rfl) | (obtain ⟨_, _, _, rfl, _⟩ := q; rfl) | (obtain ⟨_, _, _, _, rfl, _⟩ := q; rfl) | (obtain ⟨_, _, _, _, _, rfl, _⟩ := q; rfl) | (obtain ⟨_, _, _, _, _, _, rfl, _⟩ := q; rfl) | (obtain ⟨_, _, _, _, _, _, _, rfl, _⟩ := q; rfl)) (pure_is_row_form)
  have C_is_row_form (gd : Prop) : Cal gd PySem.Challenge.pw_heldterms_k75_worlds_of_three_parts w K mg base 3 "is_row_form" ["thing"] sp_is_row_form := ⟨⟨_, _, G_is_row_form gd, m_is_row_form, F_is_row_form.kp, b_is_row_form⟩⟩
  have G_is_function_form (gd : Prop) : FnG gd PySem.Challenge.pw_heldterms_k75_worlds_of_three_parts w K mg base 4 (ga K "is_function_form") fd_is_function_form ["thing"] (upSp PySem.Challenge.pw_heldterms_k75_worlds_of_three_parts w K sp_is_function_form) := ok_is_function_form F_is_function_form (C_is_index gd) (C_is_row_form gd) z_isinstance z_tuple z_len z_all (by intro ds h R E q; first | (obtain ⟨rfl, _⟩ := q; rfl) | (obtain ⟨_, rfl, _⟩ := q; rfl) | (obtain ⟨_, _, rfl, _⟩ := q; rfl) | (obtain ⟨_, _, _, rfl, _⟩ := q; rfl) | (obtain ⟨_, _, _, _, rfl, _⟩ := q; rfl) | (obtain ⟨_, _, _, _, _, rfl, _⟩ := q; rfl) | (obtain ⟨_, _, _, _, _, _, rfl, _⟩ := q; rfl) | (obtain ⟨_, _, _, _, _, _, _, rfl, _⟩ := q; rfl)) (pure_is_function_form)
  have C_is_function_form (gd : Prop) : Cal gd PySem.Challenge.pw_heldterms_k75_worlds_of_three_parts w K mg base 4 "is_function_form" ["thing"] sp_is_function_form := ⟨⟨_, _, G_is_function_form gd, m_is_function_form, F_is_function_form.kp, b_is_function_form⟩⟩
  have G_are_indexes (gd : Prop) : FnG gd PySem.Challenge.pw_heldterms_k75_worlds_of_three_parts w K mg base 3 (ga K "are_indexes") fd_are_indexes ["thing"] (upSp PySem.Challenge.pw_heldterms_k75_worlds_of_three_parts w K sp_are_indexes) := ok_are_indexes F_are_indexes (C_is_index gd) z_all z_isinstance z_tuple (by intro ds h R E q; first | (obtain ⟨rfl, _⟩ := q; rfl) | (obtain ⟨_, rfl, _⟩ := q; rfl) | (obtain ⟨_, _, rfl, _⟩ := q; rfl) | (obtain ⟨_, _, _, rfl, _⟩ := q; rfl) | (obtain ⟨_, _, _, _, rfl, _⟩ := q; rfl) | (obtain ⟨_, _, _, _, _, rfl, _⟩ := q; rfl) | (obtain ⟨_, _, _, _, _, _, rfl, _⟩ := q; rfl) | (obtain ⟨_, _, _, _, _, _, _, rfl, _⟩ := q; rfl)) (pure_are_indexes)
  have C_are_indexes (gd : Prop) : Cal gd PySem.Challenge.pw_heldterms_k75_worlds_of_three_parts w K mg base 3 "are_indexes" ["thing"] sp_are_indexes := ⟨⟨_, _, G_are_indexes gd, m_are_indexes, F_are_indexes.kp, b_are_indexes⟩⟩
  have G_is_world_form (gd : Prop) : FnG gd PySem.Challenge.pw_heldterms_k75_worlds_of_three_parts w K mg base 5 (ga K "is_world_form") fd_is_world_form ["thing"] (upSp PySem.Challenge.pw_heldterms_k75_worlds_of_three_parts w K sp_is_world_form) := ok_is_world_form F_is_world_form (C_is_number gd) (C_are_indexes gd) (C_is_function_form gd) z_isinstance z_tuple z_len z_all (by intro ds h R E q; first | (obtain ⟨rfl, _⟩ := q; rfl) | (obtain ⟨_, rfl, _⟩ := q; rfl) | (obtain ⟨_, _, rfl, _⟩ := q; rfl) | (obtain ⟨_, _, _, rfl, _⟩ := q; rfl) | (obtain ⟨_, _, _, _, rfl, _⟩ := q; rfl) | (obtain ⟨_, _, _, _, _, rfl, _⟩ := q; rfl) | (obtain ⟨_, _, _, _, _, _, rfl, _⟩ := q; rfl) | (obtain ⟨_, _, _, _, _, _, _, rfl, _⟩ := q; rfl)) (pure_is_world_form)
  have C_is_world_form (gd : Prop) : Cal gd PySem.Challenge.pw_heldterms_k75_worlds_of_three_parts w K mg base 5 "is_world_form" ["thing"] sp_is_world_form := ⟨⟨_, _, G_is_world_form gd, m_is_world_form, F_is_world_form.kp, b_is_world_form⟩⟩
  have G_are_below (gd : Prop) : FnG gd PySem.Challenge.pw_heldterms_k75_worlds_of_three_parts w K mg base 1 (ga K "are_below") fd_are_below ["worths", "many"] (upSp PySem.Challenge.pw_heldterms_k75_worlds_of_three_parts w K sp_are_below) := ok_are_below F_are_below z_all (by intro ds h R E q; first | (obtain ⟨rfl, _⟩ := q; rfl) | (obtain ⟨_, rfl, _⟩ := q; rfl) | (obtain ⟨_, _, rfl, _⟩ := q; rfl) | (obtain ⟨_, _, _, rfl, _⟩ := q; rfl) | (obtain ⟨_, _, _, _, rfl, _⟩ := q; rfl) | (obtain ⟨_, _, _, _, _, rfl, _⟩ := q; rfl) | (obtain ⟨_, _, _, _, _, _, rfl, _⟩ := q; rfl) | (obtain ⟨_, _, _, _, _, _, _, rfl, _⟩ := q; rfl)) (pure_are_below)
  have C_are_below (gd : Prop) : Cal gd PySem.Challenge.pw_heldterms_k75_worlds_of_three_parts w K mg base 1 "are_below" ["worths", "many"] sp_are_below := ⟨⟨_, _, G_are_below gd, m_are_below, F_are_below.kp, b_are_below⟩⟩
  have G_is_right_row (gd : Prop) : FnG gd PySem.Challenge.pw_heldterms_k75_worlds_of_three_parts w K mg base 2 (ga K "is_right_row") fd_is_right_row ["function", "many", "row"] (upSp PySem.Challenge.pw_heldterms_k75_worlds_of_three_parts w K sp_is_right_row) := ok_is_right_row F_is_right_row (C_are_below gd) z_len (by intro ds h R E q; first | (obtain ⟨rfl, _⟩ := q; rfl) | (obtain ⟨_, rfl, _⟩ := q; rfl) | (obtain ⟨_, _, rfl, _⟩ := q; rfl) | (obtain ⟨_, _, _, rfl, _⟩ := q; rfl) | (obtain ⟨_, _, _, _, rfl, _⟩ := q; rfl) | (obtain ⟨_, _, _, _, _, rfl, _⟩ := q; rfl) | (obtain ⟨_, _, _, _, _, _, rfl, _⟩ := q; rfl) | (obtain ⟨_, _, _, _, _, _, _, rfl, _⟩ := q; rfl)) (pure_is_right_row)
  have C_is_right_row (gd : Prop) : Cal gd PySem.Challenge.pw_heldterms_k75_worlds_of_three_parts w K mg base 2 "is_right_row" ["function", "many", "row"] sp_is_right_row := ⟨⟨_, _, G_is_right_row gd, m_is_right_row, F_is_right_row.kp, b_is_right_row⟩⟩
  have G_is_right_function (gd : Prop) : FnG gd PySem.Challenge.pw_heldterms_k75_worlds_of_three_parts w K mg base 3 (ga K "is_right_function") fd_is_right_function ["function", "many", "told"] (upSp PySem.Challenge.pw_heldterms_k75_worlds_of_three_parts w K sp_is_right_function) := ok_is_right_function F_is_right_function (C_is_right_row gd) z_all z_zip (by intro ds h R E q; first | (obtain ⟨rfl, _⟩ := q; rfl) | (obtain ⟨_, rfl, _⟩ := q; rfl) | (obtain ⟨_, _, rfl, _⟩ := q; rfl) | (obtain ⟨_, _, _, rfl, _⟩ := q; rfl) | (obtain ⟨_, _, _, _, rfl, _⟩ := q; rfl) | (obtain ⟨_, _, _, _, _, rfl, _⟩ := q; rfl) | (obtain ⟨_, _, _, _, _, _, rfl, _⟩ := q; rfl) | (obtain ⟨_, _, _, _, _, _, _, rfl, _⟩ := q; rfl)) (pure_is_right_function)
  have C_is_right_function (gd : Prop) : Cal gd PySem.Challenge.pw_heldterms_k75_worlds_of_three_parts w K mg base 3 "is_right_function" ["function", "many", "told"] sp_is_right_function := ⟨⟨_, _, G_is_right_function gd, m_is_right_function, F_is_right_function.kp, b_is_right_function⟩⟩
  have G_are_right_functions (gd : Prop) : FnG gd PySem.Challenge.pw_heldterms_k75_worlds_of_three_parts w K mg base 4 (ga K "are_right_functions") fd_are_right_functions ["program", "many", "functions"] (upSp PySem.Challenge.pw_heldterms_k75_worlds_of_three_parts w K sp_are_right_functions) := ok_are_right_functions F_are_right_functions (C_is_right_function gd) z_len z_all z_zip (by intro ds h R E q; first | (obtain ⟨rfl, _⟩ := q; rfl) | (obtain ⟨_, rfl, _⟩ := q; rfl) | (obtain ⟨_, _, rfl, _⟩ := q; rfl) | (obtain ⟨_, _, _, rfl, _⟩ := q; rfl) | (obtain ⟨_, _, _, _, rfl, _⟩ := q; rfl) | (obtain ⟨_, _, _, _, _, rfl, _⟩ := q; rfl) | (obtain ⟨_, _, _, _, _, _, rfl, _⟩ := q; rfl) | (obtain ⟨_, _, _, _, _, _, _, rfl, _⟩ := q; rfl)) (pure_are_right_functions)
  have C_are_right_functions (gd : Prop) : Cal gd PySem.Challenge.pw_heldterms_k75_worlds_of_three_parts w K mg base 4 "are_right_functions" ["program", "many", "functions"] sp_are_right_functions := ⟨⟨_, _, G_are_right_functions gd, m_are_right_functions, F_are_right_functions.kp, b_are_right_functions⟩⟩
  have G_world_fault (gd : Prop) : FnG gd PySem.Challenge.pw_heldterms_k75_worlds_of_three_parts w K mg base 5 (ga K "world_fault") fd_world_fault ["program", "world"] (upSp PySem.Challenge.pw_heldterms_k75_worlds_of_three_parts w K sp_world_fault) := ok_world_fault F_world_fault (C_are_below gd) (C_are_right_functions gd) z_len (by intro ds h R E q; first | (obtain ⟨rfl, _⟩ := q; rfl) | (obtain ⟨_, rfl, _⟩ := q; rfl) | (obtain ⟨_, _, rfl, _⟩ := q; rfl) | (obtain ⟨_, _, _, rfl, _⟩ := q; rfl) | (obtain ⟨_, _, _, _, rfl, _⟩ := q; rfl) | (obtain ⟨_, _, _, _, _, rfl, _⟩ := q; rfl) | (obtain ⟨_, _, _, _, _, _, rfl, _⟩ := q; rfl) | (obtain ⟨_, _, _, _, _, _, _, rfl, _⟩ := q; rfl)) (pure_world_fault)
  have C_world_fault (gd : Prop) : Cal gd PySem.Challenge.pw_heldterms_k75_worlds_of_three_parts w K mg base 5 "world_fault" ["program", "world"] sp_world_fault := ⟨⟨_, _, G_world_fault gd, m_world_fault, F_world_fault.kp, b_world_fault⟩⟩
  have G_checked_world (gd : Prop) : FnG gd PySem.Challenge.pw_heldterms_k75_worlds_of_three_parts w K mg base 6 (ga K "checked_world") fd_checked_world ["program", "thing"] (upSp PySem.Challenge.pw_heldterms_k75_worlds_of_three_parts w K (sp_checked_world (ga K "BadWorld") (ga K "TooLarge"))) := ok_checked_world F_checked_world (C_is_world_form gd) (C_world_fault gd) k_MOST_WORTHS (x_BadWorld base) (x_TooLarge base) (by intro ds h R E q; first | (obtain ⟨rfl, _⟩ := q; rfl) | (obtain ⟨_, rfl, _⟩ := q; rfl) | (obtain ⟨_, _, rfl, _⟩ := q; rfl) | (obtain ⟨_, _, _, rfl, _⟩ := q; rfl) | (obtain ⟨_, _, _, _, rfl, _⟩ := q; rfl) | (obtain ⟨_, _, _, _, _, rfl, _⟩ := q; rfl) | (obtain ⟨_, _, _, _, _, _, rfl, _⟩ := q; rfl) | (obtain ⟨_, _, _, _, _, _, _, rfl, _⟩ := q; rfl)) (pure_checked_world _ _)
  have C_checked_world (gd : Prop) : Cal gd PySem.Challenge.pw_heldterms_k75_worlds_of_three_parts w K mg base 6 "checked_world" ["program", "thing"] (sp_checked_world (ga K "BadWorld") (ga K "TooLarge")) := ⟨⟨_, _, G_checked_world gd, m_checked_world, F_checked_world.kp, b_checked_world⟩⟩
  have G_function_at (gd : Prop) : FnG gd PySem.Challenge.pw_heldterms_k75_worlds_of_three_parts w K mg base 3 (ga K "function_at") fd_function_at ["program", "f"] (upSp PySem.Challenge.pw_heldterms_k75_worlds_of_three_parts w K (sp_function_at (ga K "Nothing"))) := ok_function_at F_function_at z_enumerate x_Nothing (by intro ds h R E q; first | (obtain ⟨rfl, _⟩ := q; rfl) | (obtain ⟨_, rfl, _⟩ := q; rfl) | (obtain ⟨_, _, rfl, _⟩ := q; rfl) | (obtain ⟨_, _, _, rfl, _⟩ := q; rfl) | (obtain ⟨_, _, _, _, rfl, _⟩ := q; rfl) | (obtain ⟨_, _, _, _, _, rfl, _⟩ := q; rfl) | (obtain ⟨_, _, _, _, _, _, rfl, _⟩ := q; rfl) | (obtain ⟨_, _, _, _, _, _, _, rfl, _⟩ := q; rfl)) (pure_function_at _)
  have C_function_at (gd : Prop) : Cal gd PySem.Challenge.pw_heldterms_k75_worlds_of_three_parts w K mg base 3 "function_at" ["program", "f"] (sp_function_at (ga K "Nothing")) := ⟨⟨_, _, G_function_at gd, m_function_at, F_function_at.kp, b_function_at⟩⟩
  have G_applied (gd : Prop) : FnG gd PySem.Challenge.pw_heldterms_k75_worlds_of_three_parts w K mg base 4 (ga K "applied") fd_applied ["program", "world", "f", "worths"] (upSp PySem.Challenge.pw_heldterms_k75_worlds_of_three_parts w K (sp_applied (ga K "Nothing"))) := ok_applied F_applied (C_function_at gd) (C_are_indexes gd) (C_are_below gd) z_len z_tuple z_sorted z_dict x_Nothing (by intro ds h R E q; first | (obtain ⟨rfl, _⟩ := q; rfl) | (obtain ⟨_, rfl, _⟩ := q; rfl) | (obtain ⟨_, _, rfl, _⟩ := q; rfl) | (obtain ⟨_, _, _, rfl, _⟩ := q; rfl) | (obtain ⟨_, _, _, _, rfl, _⟩ := q; rfl) | (obtain ⟨_, _, _, _, _, rfl, _⟩ := q; rfl) | (obtain ⟨_, _, _, _, _, _, rfl, _⟩ := q; rfl) | (obtain ⟨_, _, _, _, _, _, _, rfl, _⟩ := q; rfl)) (pure_applied _)
  have C_applied (gd : Prop) : Cal gd PySem.Challenge.pw_heldterms_k75_worlds_of_three_parts w K mg base 4 "applied" ["program", "world", "f", "worths"] (sp_applied (ga K "Nothing")) := ⟨⟨_, _, G_applied gd, m_applied, F_applied.kp, b_applied⟩⟩
  have G_letter_worth (gd : Prop) : FnG gd PySem.Challenge.pw_heldterms_k75_worlds_of_three_parts w K mg base 3 (ga K "letter_worth") fd_letter_worth ["program", "world", "a"] (upSp PySem.Challenge.pw_heldterms_k75_worlds_of_three_parts w K (sp_letter_worth (ga K "Nothing"))) := ok_letter_worth F_letter_worth x_Nothing (by intro ds h R E q; first | (obtain ⟨rfl, _⟩ := q; rfl) | (obtain ⟨_, rfl, _⟩ := q; rfl) | (obtain ⟨_, _, rfl, _⟩ := q; rfl) | (obtain ⟨_, _, _, rfl, _⟩ := q; rfl) | (obtain ⟨_, _, _, _, rfl, _⟩ := q; rfl) | (obtain ⟨_, _, _, _, _, rfl, _⟩ := q; rfl) | (obtain ⟨_, _, _, _, _, _, rfl, _⟩ := q; rfl) | (obtain ⟨_, _, _, _, _, _, _, rfl, _⟩ := q; rfl)) (pure_letter_worth _)
  have C_letter_worth (gd : Prop) : Cal gd PySem.Challenge.pw_heldterms_k75_worlds_of_three_parts w K mg base 3 "letter_worth" ["program", "world", "a"] (sp_letter_worth (ga K "Nothing")) := ⟨⟨_, _, G_letter_worth gd, m_letter_worth, F_letter_worth.kp, b_letter_worth⟩⟩
  have G_input_worth (gd : Prop) : FnG gd PySem.Challenge.pw_heldterms_k75_worlds_of_three_parts w K mg base 3 (ga K "input_worth") fd_input_worth ["program", "world", "x"] (upSp PySem.Challenge.pw_heldterms_k75_worlds_of_three_parts w K (sp_input_worth (ga K "Nothing"))) := ok_input_worth F_input_worth x_Nothing (by intro ds h R E q; first | (obtain ⟨rfl, _⟩ := q; rfl) | (obtain ⟨_, rfl, _⟩ := q; rfl) | (obtain ⟨_, _, rfl, _⟩ := q; rfl) | (obtain ⟨_, _, _, rfl, _⟩ := q; rfl) | (obtain ⟨_, _, _, _, rfl, _⟩ := q; rfl) | (obtain ⟨_, _, _, _, _, rfl, _⟩ := q; rfl) | (obtain ⟨_, _, _, _, _, _, rfl, _⟩ := q; rfl) | (obtain ⟨_, _, _, _, _, _, _, rfl, _⟩ := q; rfl)) (pure_input_worth _)
  have C_input_worth (gd : Prop) : Cal gd PySem.Challenge.pw_heldterms_k75_worlds_of_three_parts w K mg base 3 "input_worth" ["program", "world", "x"] (sp_input_worth (ga K "Nothing")) := ⟨⟨_, _, G_input_worth gd, m_input_worth, F_input_worth.kp, b_input_worth⟩⟩
  have G_any_worth (gd : Prop) : FnG gd PySem.Challenge.pw_heldterms_k75_worlds_of_three_parts w K mg base 3 (ga K "any_worth") fd_any_worth ["world", "k"] (upSp PySem.Challenge.pw_heldterms_k75_worlds_of_three_parts w K (sp_any_worth (ga K "Nothing"))) := ok_any_worth F_any_worth (C_is_index gd) z_len x_Nothing (by intro ds h R E q; first | (obtain ⟨rfl, _⟩ := q; rfl) | (obtain ⟨_, rfl, _⟩ := q; rfl) | (obtain ⟨_, _, rfl, _⟩ := q; rfl) | (obtain ⟨_, _, _, rfl, _⟩ := q; rfl) | (obtain ⟨_, _, _, _, rfl, _⟩ := q; rfl) | (obtain ⟨_, _, _, _, _, rfl, _⟩ := q; rfl) | (obtain ⟨_, _, _, _, _, _, rfl, _⟩ := q; rfl) | (obtain ⟨_, _, _, _, _, _, _, rfl, _⟩ := q; rfl)) (pure_any_worth _)
  have C_any_worth (gd : Prop) : Cal gd PySem.Challenge.pw_heldterms_k75_worlds_of_three_parts w K mg base 3 "any_worth" ["world", "k"] (sp_any_worth (ga K "Nothing")) := ⟨⟨_, _, G_any_worth gd, m_any_worth, F_any_worth.kp, b_any_worth⟩⟩
  have G_row_otherwise (gd : Prop) : FnG gd PySem.Challenge.pw_heldterms_k75_worlds_of_three_parts w K mg base 1 (ga K "row_otherwise") fd_row_otherwise ["function", "order", "row"] (upSp PySem.Challenge.pw_heldterms_k75_worlds_of_three_parts w K sp_row_otherwise) := ok_row_otherwise F_row_otherwise z_tuple z_sorted (by intro ds h R E q; first | (obtain ⟨rfl, _⟩ := q; rfl) | (obtain ⟨_, rfl, _⟩ := q; rfl) | (obtain ⟨_, _, rfl, _⟩ := q; rfl) | (obtain ⟨_, _, _, rfl, _⟩ := q; rfl) | (obtain ⟨_, _, _, _, rfl, _⟩ := q; rfl) | (obtain ⟨_, _, _, _, _, rfl, _⟩ := q; rfl) | (obtain ⟨_, _, _, _, _, _, rfl, _⟩ := q; rfl) | (obtain ⟨_, _, _, _, _, _, _, rfl, _⟩ := q; rfl)) (pure_row_otherwise)
  have C_row_otherwise (gd : Prop) : Cal gd PySem.Challenge.pw_heldterms_k75_worlds_of_three_parts w K mg base 1 "row_otherwise" ["function", "order", "row"] sp_row_otherwise := ⟨⟨_, _, G_row_otherwise gd, m_row_otherwise, F_row_otherwise.kp, b_row_otherwise⟩⟩
  have G_put_otherwise (gd : Prop) : FnG gd PySem.Challenge.pw_heldterms_k75_worlds_of_three_parts w K mg base 4 (ga K "put_otherwise") fd_put_otherwise ["program", "world", "order"] (upSp PySem.Challenge.pw_heldterms_k75_worlds_of_three_parts w K (sp_put_otherwise (ga K "Nothing"))) := ok_put_otherwise F_put_otherwise (C_are_indexes gd) (C_row_otherwise gd) z_sorted z_list z_range z_zip z_tuple x_Nothing (by intro ds h R E q; first | (obtain ⟨rfl, _⟩ := q; rfl) | (obtain ⟨_, rfl, _⟩ := q; rfl) | (obtain ⟨_, _, rfl, _⟩ := q; rfl) | (obtain ⟨_, _, _, rfl, _⟩ := q; rfl) | (obtain ⟨_, _, _, _, rfl, _⟩ := q; rfl) | (obtain ⟨_, _, _, _, _, rfl, _⟩ := q; rfl) | (obtain ⟨_, _, _, _, _, _, rfl, _⟩ := q; rfl) | (obtain ⟨_, _, _, _, _, _, _, rfl, _⟩ := q; rfl)) (pure_put_otherwise _)
  have C_put_otherwise (gd : Prop) : Cal gd PySem.Challenge.pw_heldterms_k75_worlds_of_three_parts w K mg base 4 "put_otherwise" ["program", "world", "order"] (sp_put_otherwise (ga K "Nothing")) := ⟨⟨_, _, G_put_otherwise gd, m_put_otherwise, F_put_otherwise.kp, b_put_otherwise⟩⟩
  have G_least_world (gd : Prop) : FnG gd PySem.Challenge.pw_heldterms_k75_worlds_of_three_parts w K mg base 1 (ga K "least_world") fd_least_world ["program", "world"] (upSp PySem.Challenge.pw_heldterms_k75_worlds_of_three_parts w K sp_least_world) := ok_least_world F_least_world z_tuple (by intro ds h R E q; first | (obtain ⟨rfl, _⟩ := q; rfl) | (obtain ⟨_, rfl, _⟩ := q; rfl) | (obtain ⟨_, _, rfl, _⟩ := q; rfl) | (obtain ⟨_, _, _, rfl, _⟩ := q; rfl) | (obtain ⟨_, _, _, _, rfl, _⟩ := q; rfl) | (obtain ⟨_, _, _, _, _, rfl, _⟩ := q; rfl) | (obtain ⟨_, _, _, _, _, _, rfl, _⟩ := q; rfl) | (obtain ⟨_, _, _, _, _, _, _, rfl, _⟩ := q; rfl)) (pure_least_world)
  have C_least_world (gd : Prop) : Cal gd PySem.Challenge.pw_heldterms_k75_worlds_of_three_parts w K mg base 1 "least_world" ["program", "world"] sp_least_world := ⟨⟨_, _, G_least_world gd, m_least_world, F_least_world.kp, b_least_world⟩⟩
  have G__law_take (gd : Prop) : FnG gd PySem.Challenge.pw_heldterms_k75_worlds_of_three_parts w K mg base 1 (ga K "_law_take") fd__law_take ["bag", "many"] (upSp PySem.Challenge.pw_heldterms_k75_worlds_of_three_parts w K sp__law_take) := ok__law_take F__law_take z_int (by intro ds h R E q; first | (obtain ⟨rfl, _⟩ := q; rfl) | (obtain ⟨_, rfl, _⟩ := q; rfl) | (obtain ⟨_, _, rfl, _⟩ := q; rfl) | (obtain ⟨_, _, _, rfl, _⟩ := q; rfl) | (obtain ⟨_, _, _, _, rfl, _⟩ := q; rfl) | (obtain ⟨_, _, _, _, _, rfl, _⟩ := q; rfl) | (obtain ⟨_, _, _, _, _, _, rfl, _⟩ := q; rfl) | (obtain ⟨_, _, _, _, _, _, _, rfl, _⟩ := q; rfl)) (pure__law_take)
  have C__law_take (gd : Prop) : Cal gd PySem.Challenge.pw_heldterms_k75_worlds_of_three_parts w K mg base 1 "_law_take" ["bag", "many"] sp__law_take := ⟨⟨_, _, G__law_take gd, m__law_take, F__law_take.kp, b__law_take⟩⟩
  have G__law_some (gd : Prop) : FnG gd PySem.Challenge.pw_heldterms_k75_worlds_of_three_parts w K mg base 2 (ga K "_law_some") fd__law_some ["bag", "things"] (upSp PySem.Challenge.pw_heldterms_k75_worlds_of_three_parts w K sp__law_some) := ok__law_some F__law_some (C__law_take gd) z_len (by intro ds h R E q; first | (obtain ⟨rfl, _⟩ := q; rfl) | (obtain ⟨_, rfl, _⟩ := q; rfl) | (obtain ⟨_, _, rfl, _⟩ := q; rfl) | (obtain ⟨_, _, _, rfl, _⟩ := q; rfl) | (obtain ⟨_, _, _, _, rfl, _⟩ := q; rfl) | (obtain ⟨_, _, _, _, _, rfl, _⟩ := q; rfl) | (obtain ⟨_, _, _, _, _, _, rfl, _⟩ := q; rfl) | (obtain ⟨_, _, _, _, _, _, _, rfl, _⟩ := q; rfl)) (pure__law_some)
  have C__law_some (gd : Prop) : Cal gd PySem.Challenge.pw_heldterms_k75_worlds_of_three_parts w K mg base 2 "_law_some" ["bag", "things"] sp__law_some := ⟨⟨_, _, G__law_some gd, m__law_some, F__law_some.kp, b__law_some⟩⟩
  have G__law_mixed (gd : Prop) : FnG gd PySem.Challenge.pw_heldterms_k75_worlds_of_three_parts w K mg base 2 (ga K "_law_mixed") fd__law_mixed ["bag", "things"] (upSp PySem.Challenge.pw_heldterms_k75_worlds_of_three_parts w K sp__law_mixed) := ok__law_mixed F__law_mixed (C__law_take gd) z_len (by intro ds h R E q; first | (obtain ⟨rfl, _⟩ := q; rfl) | (obtain ⟨_, rfl, _⟩ := q; rfl) | (obtain ⟨_, _, rfl, _⟩ := q; rfl) | (obtain ⟨_, _, _, rfl, _⟩ := q; rfl) | (obtain ⟨_, _, _, _, rfl, _⟩ := q; rfl) | (obtain ⟨_, _, _, _, _, rfl, _⟩ := q; rfl) | (obtain ⟨_, _, _, _, _, _, rfl, _⟩ := q; rfl) | (obtain ⟨_, _, _, _, _, _, _, rfl, _⟩ := q; rfl)) (pure__law_mixed)
  have C__law_mixed (gd : Prop) : Cal gd PySem.Challenge.pw_heldterms_k75_worlds_of_three_parts w K mg base 2 "_law_mixed" ["bag", "things"] sp__law_mixed := ⟨⟨_, _, G__law_mixed gd, m__law_mixed, F__law_mixed.kp, b__law_mixed⟩⟩
  have G__law_alike : FnG True PySem.Challenge.pw_heldterms_k75_worlds_of_three_parts w K mg base 1 (ga K "_law_alike") fd__law_alike ["found", "due"] (upSp PySem.Challenge.pw_heldterms_k75_worlds_of_three_parts w K sp__law_alike) := ok__law_alike F__law_alike z_repr (by intro ds h R E q; first | (obtain ⟨rfl, _⟩ := q; rfl) | (obtain ⟨_, rfl, _⟩ := q; rfl) | (obtain ⟨_, _, rfl, _⟩ := q; rfl) | (obtain ⟨_, _, _, rfl, _⟩ := q; rfl) | (obtain ⟨_, _, _, _, rfl, _⟩ := q; rfl) | (obtain ⟨_, _, _, _, _, rfl, _⟩ := q; rfl) | (obtain ⟨_, _, _, _, _, _, rfl, _⟩ := q; rfl) | (obtain ⟨_, _, _, _, _, _, _, rfl, _⟩ := q; rfl)) (pure__law_alike)
  have C__law_alike : Cal True PySem.Challenge.pw_heldterms_k75_worlds_of_three_parts w K mg base 1 "_law_alike" ["found", "due"] sp__law_alike := ⟨⟨_, _, G__law_alike, m__law_alike, F__law_alike.kp, b__law_alike⟩⟩
  have G__law_longer (gd : Prop) : FnG gd PySem.Challenge.pw_heldterms_k75_worlds_of_three_parts w K mg base 1 (ga K "_law_longer") fd__law_longer ["keys", "many", "how"] (upSp PySem.Challenge.pw_heldterms_k75_worlds_of_three_parts w K sp__law_longer) := ok__law_longer F__law_longer z_range (by intro ds h R E q; first | (obtain ⟨rfl, _⟩ := q; rfl) | (obtain ⟨_, rfl, _⟩ := q; rfl) | (obtain ⟨_, _, rfl, _⟩ := q; rfl) | (obtain ⟨_, _, _, rfl, _⟩ := q; rfl) | (obtain ⟨_, _, _, _, rfl, _⟩ := q; rfl) | (obtain ⟨_, _, _, _, _, rfl, _⟩ := q; rfl) | (obtain ⟨_, _, _, _, _, _, rfl, _⟩ := q; rfl) | (obtain ⟨_, _, _, _, _, _, _, rfl, _⟩ := q; rfl)) (pure__law_longer)
  have C__law_longer (gd : Prop) : Cal gd PySem.Challenge.pw_heldterms_k75_worlds_of_three_parts w K mg base 1 "_law_longer" ["keys", "many", "how"] sp__law_longer := ⟨⟨_, _, G__law_longer gd, m__law_longer, F__law_longer.kp, b__law_longer⟩⟩
  have G__law_world (gd : Prop) : FnG gd PySem.Challenge.pw_heldterms_k75_worlds_of_three_parts w K mg base 3 (ga K "_law_world") fd__law_world ["bag", "program", "many", "anys"] (upSp PySem.Challenge.pw_heldterms_k75_worlds_of_three_parts w K sp__law_world) := ok__law_world F__law_world (C__law_mixed gd) (C__law_longer gd) (C__law_take gd) z_tuple z_list z_range z_len z_sorted (by intro ds h R E q; first | (obtain ⟨rfl, _⟩ := q; rfl) | (obtain ⟨_, rfl, _⟩ := q; rfl) | (obtain ⟨_, _, rfl, _⟩ := q; rfl) | (obtain ⟨_, _, _, rfl, _⟩ := q; rfl) | (obtain ⟨_, _, _, _, rfl, _⟩ := q; rfl) | (obtain ⟨_, _, _, _, _, rfl, _⟩ := q; rfl) | (obtain ⟨_, _, _, _, _, _, rfl, _⟩ := q; rfl) | (obtain ⟨_, _, _, _, _, _, _, rfl, _⟩ := q; rfl)) (pure__law_world)
  have C__law_world (gd : Prop) : Cal gd PySem.Challenge.pw_heldterms_k75_worlds_of_three_parts w K mg base 3 "_law_world" ["bag", "program", "many", "anys"] sp__law_world := ⟨⟨_, _, G__law_world gd, m__law_world, F__law_world.kp, b__law_world⟩⟩
  have G__law_applied (gd : Prop) : FnG gd PySem.Challenge.pw_heldterms_k75_worlds_of_three_parts w K mg base 1 (ga K "_law_applied") fd__law_applied ["program", "world", "f", "worths"] (upSp PySem.Challenge.pw_heldterms_k75_worlds_of_three_parts w K sp__law_applied) := ok__law_applied F__law_applied z_tuple z_sorted z_dict (by intro ds h R E q; first | (obtain ⟨rfl, _⟩ := q; rfl) | (obtain ⟨_, rfl, _⟩ := q; rfl) | (obtain ⟨_, _, rfl, _⟩ := q; rfl) | (obtain ⟨_, _, _, rfl, _⟩ := q; rfl) | (obtain ⟨_, _, _, _, rfl, _⟩ := q; rfl) | (obtain ⟨_, _, _, _, _, rfl, _⟩ := q; rfl) | (obtain ⟨_, _, _, _, _, _, rfl, _⟩ := q; rfl) | (obtain ⟨_, _, _, _, _, _, _, rfl, _⟩ := q; rfl)) (pure__law_applied)
  have C__law_applied (gd : Prop) : Cal gd PySem.Challenge.pw_heldterms_k75_worlds_of_three_parts w K mg base 1 "_law_applied" ["program", "world", "f", "worths"] sp__law_applied := ⟨⟨_, _, G__law_applied gd, m__law_applied, F__law_applied.kp, b__law_applied⟩⟩
  have G__law_wide_functions (gd : Prop) : FnG gd PySem.Challenge.pw_heldterms_k75_worlds_of_three_parts w K mg base 2 (ga K "_law_wide_functions") fd__law_wide_functions ["bag"] (upSp PySem.Challenge.pw_heldterms_k75_worlds_of_three_parts w K sp__law_wide_functions) := ok__law_wide_functions F__law_wide_functions (C__law_take gd) z_tuple (by intro ds h R E q; first | (obtain ⟨rfl, _⟩ := q; rfl) | (obtain ⟨_, rfl, _⟩ := q; rfl) | (obtain ⟨_, _, rfl, _⟩ := q; rfl) | (obtain ⟨_, _, _, rfl, _⟩ := q; rfl) | (obtain ⟨_, _, _, _, rfl, _⟩ := q; rfl) | (obtain ⟨_, _, _, _, _, rfl, _⟩ := q; rfl) | (obtain ⟨_, _, _, _, _, _, rfl, _⟩ := q; rfl) | (obtain ⟨_, _, _, _, _, _, _, rfl, _⟩ := q; rfl)) (pure__law_wide_functions)
  have C__law_wide_functions (gd : Prop) : Cal gd PySem.Challenge.pw_heldterms_k75_worlds_of_three_parts w K mg base 2 "_law_wide_functions" ["bag"] sp__law_wide_functions := ⟨⟨_, _, G__law_wide_functions gd, m__law_wide_functions, F__law_wide_functions.kp, b__law_wide_functions⟩⟩
  have G__law_wide_frame (gd : Prop) : FnG gd PySem.Challenge.pw_heldterms_k75_worlds_of_three_parts w K mg base 3 (ga K "_law_wide_frame") fd__law_wide_frame ["bag"] (upSp PySem.Challenge.pw_heldterms_k75_worlds_of_three_parts w K sp__law_wide_frame) := ok__law_wide_frame F__law_wide_frame (C__law_take gd) (C__law_wide_functions gd) z_tuple (by intro ds h R E q; first | (obtain ⟨rfl, _⟩ := q; rfl) | (obtain ⟨_, rfl, _⟩ := q; rfl) | (obtain ⟨_, _, rfl, _⟩ := q; rfl) | (obtain ⟨_, _, _, rfl, _⟩ := q; rfl) | (obtain ⟨_, _, _, _, rfl, _⟩ := q; rfl) | (obtain ⟨_, _, _, _, _, rfl, _⟩ := q; rfl) | (obtain ⟨_, _, _, _, _, _, rfl, _⟩ := q; rfl) | (obtain ⟨_, _, _, _, _, _, _, rfl, _⟩ := q; rfl)) (pure__law_wide_frame)
  have C__law_wide_frame (gd : Prop) : Cal gd PySem.Challenge.pw_heldterms_k75_worlds_of_three_parts w K mg base 3 "_law_wide_frame" ["bag"] sp__law_wide_frame := ⟨⟨_, _, G__law_wide_frame gd, m__law_wide_frame, F__law_wide_frame.kp, b__law_wide_frame⟩⟩
  have G__law_called (gd : Prop) : FnG gd PySem.Challenge.pw_heldterms_k75_worlds_of_three_parts w K mg base 1 (ga K "_law_called") fd__law_called ["program", "world", "order"] (upSp PySem.Challenge.pw_heldterms_k75_worlds_of_three_parts w K sp__law_called) := ok__law_called F__law_called z_zip z_tuple z_sorted (by intro ds h R E q; first | (obtain ⟨rfl, _⟩ := q; rfl) | (obtain ⟨_, rfl, _⟩ := q; rfl) | (obtain ⟨_, _, rfl, _⟩ := q; rfl) | (obtain ⟨_, _, _, rfl, _⟩ := q; rfl) | (obtain ⟨_, _, _, _, rfl, _⟩ := q; rfl) | (obtain ⟨_, _, _, _, _, rfl, _⟩ := q; rfl) | (obtain ⟨_, _, _, _, _, _, rfl, _⟩ := q; rfl) | (obtain ⟨_, _, _, _, _, _, _, rfl, _⟩ := q; rfl)) (pure__law_called)
  have C__law_called (gd : Prop) : Cal gd PySem.Challenge.pw_heldterms_k75_worlds_of_three_parts w K mg base 1 "_law_called" ["program", "world", "order"] sp__law_called := ⟨⟨_, _, G__law_called gd, m__law_called, F__law_called.kp, b__law_called⟩⟩
  have G__law_fault (gd : Prop) : FnG gd PySem.Challenge.pw_heldterms_k75_worlds_of_three_parts w K mg base 7 (ga K "_law_fault") fd__law_fault ["program", "thing"] (upSp PySem.Challenge.pw_heldterms_k75_worlds_of_three_parts w K sp__law_fault) := ok__law_fault F__law_fault (C_checked_world gd) g_TooLarge g_BadWorld eq0 t_TooLarge t_BadWorld n_TooLarge_limit n_TooLarge_what n_BadWorld_fault (by intro ds h R E q; first | (obtain ⟨rfl, _⟩ := q; rfl) | (obtain ⟨_, rfl, _⟩ := q; rfl) | (obtain ⟨_, _, rfl, _⟩ := q; rfl) | (obtain ⟨_, _, _, rfl, _⟩ := q; rfl) | (obtain ⟨_, _, _, _, rfl, _⟩ := q; rfl) | (obtain ⟨_, _, _, _, _, rfl, _⟩ := q; rfl) | (obtain ⟨_, _, _, _, _, _, rfl, _⟩ := q; rfl) | (obtain ⟨_, _, _, _, _, _, _, rfl, _⟩ := q; rfl)) (pure__law_fault (Ne.symm d_BadWorld_TooLarge))
  have C__law_fault (gd : Prop) : Cal gd PySem.Challenge.pw_heldterms_k75_worlds_of_three_parts w K mg base 7 "_law_fault" ["program", "thing"] sp__law_fault := ⟨⟨_, _, G__law_fault gd, m__law_fault, F__law_fault.kp, b__law_fault⟩⟩
  have G__law_bag (gd : Prop) : FnG gd PySem.Challenge.pw_heldterms_k75_worlds_of_three_parts w K mg base 1 (ga K "_law_bag") fd__law_bag ["script"] (upSpF PySem.Challenge.pw_heldterms_k75_worlds_of_three_parts w K sp__law_bag) := ok__law_bag F__law_bag z_abs (by intro l ns ds h R E q; first | (obtain ⟨rfl, _⟩ := q; rfl) | (obtain ⟨_, rfl, _⟩ := q; rfl) | (obtain ⟨_, _, rfl, _⟩ := q; rfl) | (obtain ⟨_, _, _, rfl, _⟩ := q; rfl) | (obtain ⟨_, _, _, _, rfl, _⟩ := q; rfl) | (obtain ⟨_, _, _, _, _, rfl, _⟩ := q; rfl) | (obtain ⟨_, _, _, _, _, _, rfl, _⟩ := q; rfl) | (obtain ⟨_, _, _, _, _, _, _, rfl, _⟩ := q; rfl)) (pure__law_bag)
  have C__law_bag (gd : Prop) : CalF gd PySem.Challenge.pw_heldterms_k75_worlds_of_three_parts w K mg base 1 "_law_bag" ["script"] sp__law_bag := ⟨⟨_, _, G__law_bag gd, m__law_bag, F__law_bag.kp, b__law_bag⟩⟩
  have hcode : fd_law.code = .ref (cT K ("law", none)).1 := by
    obtain ⟨oc, od, dV, kV, doc, pm, an, cdv, ct, osl, e, lk, hcd, _, _⟩ := F_law.ex
    obtain ⟨cc, rfl⟩ := codeIn_ref hcd
    have e2 : fd_law.code = .ref cc := by rw [e]
    have e3 : codeOf K ("law", none) = cc := codeOf_eq lk e2
    show fd_law.code = .ref (codeOf K ("law", none))
    rw [e3]; exact e2
  exact ok_law F_law (C__law_bag True) (C_applied False) (C_letter_worth False) F__law_refused m__law_refused b__law_refused e_Nothing_Nothing (C__law_wide_frame True) (C__law_take True) (C__law_world True) (C_checked_world True) (C__law_some True) (C__law_applied True) C__law_alike (C_applied True) (C_letter_worth True) (C_input_worth True) (C_any_worth True) (C__law_mixed True) (C_least_world True) (C_put_otherwise True) (C__law_called True) (C__law_fault True) z_range z_len z_list z_tuple z_enumerate g_Nothing hcode TB (by intro l ns ds h R E q; first | (obtain ⟨rfl, _⟩ := q; rfl) | (obtain ⟨_, rfl, _⟩ := q; rfl) | (obtain ⟨_, _, rfl, _⟩ := q; rfl) | (obtain ⟨_, _, _, rfl, _⟩ := q; rfl) | (obtain ⟨_, _, _, _, rfl, _⟩ := q; rfl) | (obtain ⟨_, _, _, _, _, rfl, _⟩ := q; rfl) | (obtain ⟨_, _, _, _, _, _, rfl, _⟩ := q; rfl) | (obtain ⟨_, _, _, _, _, _, _, rfl, _⟩ := q; rfl)) (pure_law _ _ _ _)
def looseAll : List PySem.Str := (["_wall", "__name__", "HeldError", "BadWorld", "Nothing", "TooLarge", "is_number", "is_index", "MOST_WORTHS", "is_row_form", "is_function_form", "are_indexes", "is_world_form", "are_below", "is_right_row", "is_right_function", "are_right_functions", "world_fault", "checked_world", "function_at", "applied", "letter_worth", "input_worth", "any_worth", "row_otherwise", "put_otherwise", "least_world", "_law_bag", "_law_take", "_law_some"] : List PySem.Str) ++ (["_law_mixed", "_law_alike", "_law_world", "_law_longer", "_law_applied", "_law_wide_functions", "_law_wide_frame", "_law_fault", "_law_refused", "_law_called"] : List PySem.Str)
abbrev RR : PySem.W.OpenRow := PySem.W.OpenLaw.row PySem.Challenge.rw_heldterms_k75_worlds_of_three_parts
abbrev hkk : PySem.W.Hook := hookY 5 faAll fnAll [] inAll tfAll exAll
def obb (s : PySem.W.SharedT) : AlY := obsY 5 faAll fnAll [] inAll tfAll exAll (HandSHeadRun.getT s)
theorem obb_eq (s : PySem.W.SharedT) : obb s = hkk.obs s.abs := obsY_eq (HandSHeadRun.getT_eq s)
theorem run (w : World) : HandSHeadRun.RunEq RR (PySem.W.view RR.prog [43]) hkk obb 3000 looseAll w := by
  intro os
  kernel_rfl
end AX
open PySem PySem.W PySem.Calls PyProof.Rows
set_option maxRecDepth 100000 in
set_option maxHeartbeats 0 in
theorem PySem.Challenge.cw_heldterms_k75_worlds_of_three_parts_holds : PySem.Challenge.rw_heldterms_k75_worlds_of_three_parts.Holds := by
  w_on; o_law
  refine HandSHeadRun.head_any (r := OpenLaw.row PySem.Challenge.rw_heldterms_k75_worlds_of_three_parts) (q := view (OpenLaw.row PySem.Challenge.rw_heldterms_k75_worlds_of_three_parts).prog [43]) (H := AX.hkk) (ob := AX.obb) (M := 3000) (loose := AX.looseAll) (d := HandSHeadRun.topDef (OpenLaw.row PySem.Challenge.rw_heldterms_k75_worlds_of_three_parts).prog 43) (kwd := []) AX.obb_eq
    (by kernel_rfl) (fun s => by kernel_rfl) AX.run (by kernel_rfl) (by kernel_rfl) (by kernel_rfl) (by rfl) (by first | assumption | decide +kernel) (by decide +kernel) ⟨rfl, rfl, rfl, rfl, rfl, by decide +kernel⟩ ?hw ?hc
  case hw => w_witness2
  case hc =>
    refine AX.walk_G (l := PySem.Challenge.rw_heldterms_k75_worlds_of_three_parts) (k := 10) (x := "script") (qn := AX.q_law) (gd := True) rfl (by kernel_rfl) ⟨rfl, by decide, by decide⟩ ?F
    intro w mg fa h Y G hmg0
    obtain ⟨K, KX, c⟩ := Y
    have hmg : mg ("law" : PySem.Str) = some (.ref fa) := by
      have e : (HandSHeadRun.topDef (OpenLaw.row PySem.Challenge.rw_heldterms_k75_worlds_of_three_parts).prog 43).name = ("law" : PySem.Str) := by kernel_rfl
      rw [← e]
      exact hmg0
    obtain ⟨fd, c1, T, hT, nT, hC, hb, hF⟩ := AX.facts (w := w) KX G hmg c
    exact ⟨K, fd, c1, T, KX, hT, nT, hC, hb, hF⟩


